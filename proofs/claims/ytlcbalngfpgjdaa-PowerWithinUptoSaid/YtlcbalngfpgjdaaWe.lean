/- A walk engine over abstract states, and the contracts of the functions that the statement reaches: part 5. -/
import Derived.Test.YtlcbalngfpgjdaaWd
set_option linter.unusedVariables false
set_option linter.unusedSimpArgs false
namespace Go.Ab
open Go.RowKit Go.Proofs
set_option maxHeartbeats 8000000
set_option maxRecDepth 40000
attribute [local irreducible] WalkL Walk

/-! ### The example -/

theorem f20 (a b : List Int) (ha : a.length < 2 ^ 30) : Fn Try.prog 20 [.sl (intRows a), .sl (intRows b)] (.bool (decide (a = b))) := by
  by_cases hl : a.length = b.length
  · have hne : ((a.length : Int) != (b.length : Int)) = false := by simp [hl]
    refine fn_walk 26 Try.call20 Try.func20 rfl (by decide) fun J => ?_
    simp (maxSteps := 4000000) only [go_sem, St.start, Try.ntmps20, Try.results20]
    repeat (first | refine walkL_true rfl ?_ | refine walkL_false rfl ?_ | refine walkL_seq ?_ | refine walkL_skip ?_ | refine walkL_block ?_ | (refine walkL_region fun K hK => ?_; simp (maxSteps := 4000000) only [go_sem, hne]; refine hK _ ?_; clear hK K) | refine walkL_nil ?_ | refine walkL_ret ?_ | refine walkL_exit ?_ | refine blockA_here ?_ | refine blockA_other rfl ?_ | refine blockA_ret ?_ | refine blockA_normal ?_ | refine thenA_ret ?_ | refine thenA_exit ?_ | refine thenA_normal ?_)
    refine walkL_loopS (fun (i : Nat) => [(5, .d (.i i))]) (fun _ => []) (fun i => i ≤ a.length ∧ a.take i = b.take i) (fun i => a.length - i) 0 ?_ ⟨Nat.zero_le _, by simp⟩ ?_
    · simp (maxSteps := 4000000) only [go_sem]
      refine weak_of [] ?_ ?_ rfl rfl <;> simp [lessT, lessM, lessB, AV.less]
    · intro i ⟨hi, heq⟩
      simp (maxSteps := 4000000) only [go_sem]
      repeat (first | refine walkL_seq ?_ | refine walkL_skip ?_ | refine walkL_block ?_ | (refine walkL_region fun K hK => ?_; simp (maxSteps := 4000000) only [go_sem]; refine hK _ ?_; clear hK K) | refine walkL_nil ?_ | refine walkL_ret ?_ | refine walkL_exit ?_ | refine blockA_here ?_ | refine blockA_other rfl ?_ | refine blockA_ret ?_ | refine blockA_normal ?_ | refine thenA_ret ?_ | refine thenA_exit ?_ | refine thenA_normal ?_)
      refine walkL_cond rfl (fun hb => ?_) (fun hb => ?_)
      · have hlt : i < a.length := by simpa using hb
        have hw : IntKind.i64.wrap ((i : Int) + 1) = ((i + 1 : Nat) : Int) := by rw [wr_small (by omega)]; simp
        obtain ⟨x, hx⟩ : ∃ x, a[i]? = some x := ⟨_, List.getElem?_eq_getElem hlt⟩
        obtain ⟨y, hy⟩ : ∃ y, b[i]? = some y := ⟨_, List.getElem?_eq_getElem (hl ▸ hlt)⟩
        have g1 := intRows_at hx
        have g2 := intRows_at hy
        cases hq : (x != y)
        · have hxy : x = y := by simpa using hq
          repeat (first | refine walkL_true rfl ?_ | refine walkL_false rfl ?_ | refine walkL_seq ?_ | refine walkL_skip ?_ | refine walkL_block ?_ | (refine walkL_region fun K hK => ?_; simp (maxSteps := 4000000) only [go_sem, g1, g2, hq, hw]; refine hK _ ?_; clear hK K) | (refine walkL_drawn (by kernel_rfl) (by kernel_rfl) fun K hK => ?_; simp (maxSteps := 4000000) only [go_sem, g1, g2, hq, hw]; refine ⟨by kernel_rfl, hK _ ?_⟩; clear hK K) | refine walkL_nil ?_ | refine walkL_ret ?_ | refine walkL_exit ?_ | refine blockA_here ?_ | refine blockA_other rfl ?_ | refine blockA_ret ?_ | refine blockA_normal ?_ | refine thenA_ret ?_ | refine thenA_exit ?_ | refine thenA_normal ?_)
          refine ⟨rfl, i + 1, ?_, ⟨hlt, by rw [List.take_add_one, List.take_add_one, hx, hy, heq, hxy]⟩, by omega⟩
          refine weak_of [] ?_ ?_ rfl rfl <;> simp [lessT, lessM, lessB, AV.less]
        · have hxy : ¬ x = y := by simpa using hq
          have hab : ¬ a = b := by rintro rfl; rw [hx] at hy; cases hy; exact hxy rfl
          repeat (first | refine walkL_true rfl ?_ | refine walkL_false rfl ?_ | refine walkL_seq ?_ | refine walkL_skip ?_ | refine walkL_block ?_ | (refine walkL_region fun K hK => ?_; simp (maxSteps := 4000000) only [go_sem, g1, g2, hq]; refine hK _ ?_; clear hK K) | (refine walkL_drawn (by kernel_rfl) (by kernel_rfl) fun K hK => ?_; simp (maxSteps := 4000000) only [go_sem, g1, g2, hq]; refine ⟨by kernel_rfl, hK _ ?_⟩; clear hK K) | refine walkL_nil ?_ | refine walkL_ret ?_ | refine walkL_exit ?_ | refine blockA_here ?_ | refine blockA_other rfl ?_ | refine blockA_ret ?_ | refine blockA_normal ?_ | refine thenA_ret ?_ | refine thenA_exit ?_ | refine thenA_normal ?_)
          simp (maxSteps := 4000000) only [go_sem, hab, decide_false]
      · have he : i = a.length := by (have : ¬ i < a.length := by simpa using hb); omega
        subst he
        have hab : a = b := by
          rw [List.take_length, hl, List.take_length] at heq
          exact heq
        repeat (first | refine walkL_seq ?_ | refine walkL_skip ?_ | refine walkL_block ?_ | (refine walkL_region fun K hK => ?_; simp (maxSteps := 4000000) only [go_sem]; refine hK _ ?_; clear hK K) | refine walkL_nil ?_ | refine walkL_ret ?_ | refine walkL_exit ?_ | refine blockA_here ?_ | refine blockA_other rfl ?_ | refine blockA_ret ?_ | refine blockA_normal ?_ | refine thenA_ret ?_ | refine thenA_exit ?_ | refine thenA_normal ?_)
        simp (maxSteps := 4000000) only [go_sem, hab, decide_true]
  · have hne : ((a.length : Int) != (b.length : Int)) = true := by simp; omega
    have hab : ¬ a = b := fun e => hl (by rw [e])
    refine fn_walk 26 Try.call20 Try.func20 rfl (by decide) fun J => ?_
    simp (maxSteps := 4000000) only [go_sem, St.start, Try.ntmps20, Try.results20]
    repeat (first | refine walkL_true rfl ?_ | refine walkL_false rfl ?_ | refine walkL_seq ?_ | refine walkL_skip ?_ | refine walkL_block ?_ | (refine walkL_region fun K hK => ?_; simp (maxSteps := 4000000) only [go_sem, hne]; refine hK _ ?_; clear hK K) | refine walkL_nil ?_ | refine walkL_ret ?_ | refine walkL_exit ?_ | refine blockA_here ?_ | refine blockA_other rfl ?_ | refine blockA_ret ?_ | refine blockA_normal ?_ | refine thenA_ret ?_ | refine thenA_exit ?_ | refine thenA_normal ?_)
    simp (maxSteps := 4000000) only [go_sem, hab, decide_false]

theorem f99 (lo hi : Int) : Fn Try.prog 99 [.i lo, .i hi] (.agg [.i lo, .i hi]) := by
  refine fn_walk 8 Try.call99 Try.func99 rfl (by decide) fun J => ?_
  simp (maxSteps := 4000000) only [go_sem, St.start, Try.ntmps99, Try.results99]
  repeat (first | refine walkL_seq ?_ | refine walkL_skip ?_ | refine walkL_block ?_ | (refine walkL_region fun K hK => ?_; simp (maxSteps := 4000000) only [go_sem]; refine hK _ ?_; clear hK K) | refine walkL_nil ?_ | refine walkL_ret ?_ | refine walkL_exit ?_ | refine blockA_here ?_ | refine blockA_other rfl ?_ | refine blockA_ret ?_ | refine blockA_normal ?_ | refine thenA_ret ?_ | refine thenA_exit ?_ | refine thenA_normal ?_)
  simp (maxSteps := 4000000) only [go_sem]

def exH (lo hi : Int) : Hour := ⟨⟨lo, hi⟩, ⟨0, 0⟩, ⟨0, 10⟩⟩

theorem f98 (lo hi : Int) : Fn Try.prog 98 [.i lo, .i hi] (.agg (exH lo hi).row) := by
  have h1 := f99 lo hi
  have h2 := f99 0 10
  refine fn_walk 10 Try.call98 Try.func98 rfl (by decide) fun J => ?_
  simp (maxSteps := 4000000) only [go_sem, St.start, Try.ntmps98, Try.results98]
  repeat (first | refine walkL_seq ?_ | refine walkL_skip ?_ | refine walkL_block ?_ | (refine walkL_region fun K hK => ?_; simp (maxSteps := 4000000) only [go_sem]; (repeat (first | (refine ⟨_, .lent (hf := h1) (hd := rfl) (hr := rfl), ?_⟩; simp (maxSteps := 4000000) only [go_sem]) | (refine ⟨_, .lent (hf := h2) (hd := rfl) (hr := rfl), ?_⟩; simp (maxSteps := 4000000) only [go_sem]) | (refine ⟨_, .given (hf := h1) (hd := rfl) (ha := rfl), ?_⟩; simp (maxSteps := 4000000) only [go_sem]) | (refine ⟨_, .given (hf := h2) (hd := rfl) (ha := rfl), ?_⟩; simp (maxSteps := 4000000) only [go_sem]))); refine hK _ ?_; clear hK K) | refine walkL_nil ?_ | refine walkL_ret ?_ | refine walkL_exit ?_ | refine blockA_here ?_ | refine blockA_other rfl ?_ | refine blockA_ret ?_ | refine blockA_normal ?_ | refine thenA_ret ?_ | refine thenA_exit ?_ | refine thenA_normal ?_)
  simp (maxSteps := 4000000) only [go_sem, exH, Hour.row]

def exF : List (List Hour) := [[exH 10 20, exH 10 20, exH 10 20, exH 10 20, exH 30 60, exH 30 60], [exH 15 45, exH 15 45, exH 10 20, exH 10 20, exH 10 20, exH 10 20]]

theorem f75 : Fn Try.prog 75 [] (.tup [.agg [.sl (scenRows exF)], .agg [.i 40, .i 0, .i (-5), .i 15], .agg [.i 1, .i 1, .i 40, .i 0, .i (-5), .i 15]]) := by
  have h99 := f99 (-5) 15
  have a1 := f98 10 20
  have a2 := f98 30 60
  have a3 := f98 15 45
  simp only [exH, Hour.row] at a1 a2 a3
  refine fn_walk 40 Try.call75 Try.func75 rfl (by decide) fun J => ?_
  simp (maxSteps := 4000000) only [go_sem, St.start, Try.ntmps75, Try.results75]
  repeat (first | refine walkL_seq ?_ | refine walkL_skip ?_ | refine walkL_block ?_ | (refine walkL_region fun K hK => ?_; simp (maxSteps := 4000000) only [go_sem]; (repeat (first | (refine ⟨_, .lent (hf := h99) (hd := rfl) (hr := rfl), ?_⟩; simp (maxSteps := 4000000) only [go_sem]) | (refine ⟨_, .given (hf := h99) (hd := rfl) (ha := rfl), ?_⟩; simp (maxSteps := 4000000) only [go_sem]))); refine hK _ ?_; clear hK K) | refine walkL_nil ?_ | refine walkL_ret ?_ | refine walkL_exit ?_ | refine blockA_here ?_ | refine blockA_other rfl ?_ | refine blockA_ret ?_ | refine blockA_normal ?_ | refine thenA_ret ?_ | refine thenA_exit ?_ | refine thenA_normal ?_)
  refine walkL_drawnR [19, 33] (by kernel_rfl) (by kernel_rfl) fun K hK => ?_
  simp (maxSteps := 4000000) only [go_sem]
  repeat (first | (refine ⟨_, .fn (hf := a1) (hd := rfl) (hr := .inl rfl), ?_⟩; simp (maxSteps := 4000000) only [go_sem]) | (refine ⟨_, .fn (hf := a2) (hd := rfl) (hr := .inl rfl), ?_⟩; simp (maxSteps := 4000000) only [go_sem]) | (refine ⟨_, .fn (hf := a3) (hd := rfl) (hr := .inl rfl), ?_⟩; simp (maxSteps := 4000000) only [go_sem]))
  refine ⟨by kernel_rfl, hK _ ?_⟩
  clear hK K
  repeat (first | refine walkL_seq ?_ | refine walkL_skip ?_ | refine walkL_block ?_ | (refine walkL_region fun K hK => ?_; simp (maxSteps := 4000000) only [go_sem]; refine hK _ ?_; clear hK K) | refine walkL_nil ?_ | refine walkL_ret ?_ | refine walkL_exit ?_ | refine blockA_here ?_ | refine blockA_other rfl ?_ | refine blockA_ret ?_ | refine blockA_normal ?_ | refine thenA_ret ?_ | refine thenA_exit ?_ | refine thenA_normal ?_)
  simp (maxSteps := 4000000) only [go_sem]
  rfl

def exP : Plant := ⟨exF, [], [0, 40, 80, 80, 40, 0], 1, 12, 50, 100, 150, 20, 50, 2, 9, [60, 60, 60, 60, 90, 90]⟩

theorem f42 : Fn Try.prog 42 [] (.agg exP.cells) := by
  have h75 := f75
  obtain ⟨F, hF⟩ : ∃ F, F = exF := ⟨_, rfl⟩
  rw [← hF] at h75
  have e : exP.cells = [.sl (scenRows F), .sl [], .sl [[.i 0], [.i 40], [.i 80], [.i 80], [.i 40], [.i 0]], .i 1, .i 12, .i 50, .i 100, .i 150, .i 20, .i 50, .i 2, .i 9, .sl [[.i 60], [.i 60], [.i 60], [.i 60], [.i 90], [.i 90]]] := by rw [hF]; rfl
  rw [e]
  refine fn_walk 14 Try.call42 Try.func42 rfl (by decide) fun J => ?_
  simp (maxSteps := 4000000) only [go_sem, St.start, Try.ntmps42, Try.results42]
  repeat (first | refine walkL_seq ?_ | refine walkL_skip ?_ | refine walkL_block ?_ | (refine walkL_region fun K hK => ?_; simp (maxSteps := 4000000) only [go_sem]; (repeat (first | (refine ⟨_, .lent (hf := h75) (hd := rfl) (hr := rfl), ?_⟩; simp (maxSteps := 4000000) only [go_sem]) | (refine ⟨_, .given (hf := h75) (hd := rfl) (ha := rfl), ?_⟩; simp (maxSteps := 4000000) only [go_sem]))); refine hK _ ?_; clear hK K) | refine walkL_nil ?_ | refine walkL_ret ?_ | refine walkL_exit ?_ | refine blockA_here ?_ | refine blockA_other rfl ?_ | refine blockA_ret ?_ | refine blockA_normal ?_ | refine thenA_ret ?_ | refine thenA_exit ?_ | refine thenA_normal ?_)
  simp (maxSteps := 4000000) only [go_sem]
end Go.Ab
namespace Go.Ab
open Go.RowKit Go.Proofs
set_option maxHeartbeats 8000000
set_option maxRecDepth 40000
attribute [local irreducible] WalkL Walk

def exG : Grid := ⟨exP, exF, 6⟩
theorem ex_open : openE exP [] = 0 := by kernel_rfl
theorem ex_grid : gridOf exP = exG := by kernel_rfl
theorem ex_plan : planG exG = some ([0, 0, 0, 0, 1, 1], 2) := by kernel_rfl
theorem ex_search : searchI (spareQ exG) 10002 0 10001 = 59 := by kernel_rfl
theorem ex_planP : planP exP = ([0, 0, 0, 0, 1, 1], 2, 0) := by
  unfold planP
  rw [if_pos ex_open, ex_grid, ex_plan]
theorem ex_spareP : spareP exP = (58, 0) := by
  unfold spareP
  rw [if_pos ex_open, ex_grid, ex_search]
  rfl

theorem ex_small : PlantSmall exP := by
  refine ⟨⟨by decide, fun l hl => ?_⟩, by decide, by decide, by decide⟩
  simp only [exP, exF, List.mem_cons, List.not_mem_nil, or_false] at hl
  rcases hl with rfl | rfl <;> decide

theorem f15 : Fn Try.prog 15 [] (.bool true) := by
  have h42 := f42
  have h17 := f17 exP ex_small
  have h24 := f24 exP ex_small
  have h20 := f20 [0, 0, 0, 0, 1, 1] [0, 0, 0, 0, 1, 1] (by decide)
  rw [ex_planP] at h17
  rw [ex_spareP] at h24
  rw [show decide (([0, 0, 0, 0, 1, 1] : List Int) = [0, 0, 0, 0, 1, 1]) = true from by decide] at h20
  rw [Plant.cells] at h42 h17 h24
  refine fn_walk 38 Try.call15 Try.func15 rfl (by decide) fun J => ?_
  simp (maxSteps := 4000000) only [go_sem, St.start, Try.ntmps15, Try.results15]
  repeat (first | refine walkL_true rfl ?_ | refine walkL_false rfl ?_ | refine walkL_seq ?_ | refine walkL_skip ?_ | refine walkL_block ?_ | (refine walkL_region fun K hK => ?_; simp (maxSteps := 4000000) only [go_sem]; (repeat (first | (refine ⟨_, .lent (hf := h42) (hd := rfl) (hr := rfl), ?_⟩; simp (maxSteps := 4000000) only [go_sem]) | (refine ⟨_, .lent (hf := h17) (hd := rfl) (hr := rfl), ?_⟩; simp (maxSteps := 4000000) only [go_sem]) | (refine ⟨_, .lent (hf := h24) (hd := rfl) (hr := rfl), ?_⟩; simp (maxSteps := 4000000) only [go_sem]) | (refine ⟨_, .lent (hf := h20) (hd := rfl) (hr := rfl), ?_⟩; simp (maxSteps := 4000000) only [go_sem]) | (refine ⟨_, .given (hf := h42) (hd := rfl) (ha := rfl), ?_⟩; simp (maxSteps := 4000000) only [go_sem]) | (refine ⟨_, .given (hf := h17) (hd := rfl) (ha := rfl), ?_⟩; simp (maxSteps := 4000000) only [go_sem]) | (refine ⟨_, .given (hf := h24) (hd := rfl) (ha := rfl), ?_⟩; simp (maxSteps := 4000000) only [go_sem]) | (refine ⟨_, .given (hf := h20) (hd := rfl) (ha := rfl), ?_⟩; simp (maxSteps := 4000000) only [go_sem]))); refine hK _ ?_; clear hK K) | refine walkL_nil ?_ | refine walkL_ret ?_ | refine walkL_exit ?_ | refine blockA_here ?_ | refine blockA_other rfl ?_ | refine blockA_ret ?_ | refine blockA_normal ?_ | refine thenA_ret ?_ | refine thenA_exit ?_ | refine thenA_normal ?_)
  simp (maxSteps := 4000000) only [go_sem]
end Go.Ab
namespace Go.Ab
open Go.RowKit Go.Proofs
set_option maxHeartbeats 8000000
set_option maxRecDepth 20000
attribute [local irreducible] WalkL Walk

/-! ### What the statements ask -/

def farL (F : List (List Hour)) : Bool := F.any fun l => decide ((l.length : Int) > 50)
def far5 (F : List (List Hour)) (seen : List Sight) : Bool :=
  (decide ((F.length : Int) > 8) || decide ((seen.length : Int) > 22)) || (farL F || (decide (foreF F = 0) && (decide ((F.length : Int) > 4) || decide (((hd0 F).length : Int) > 12))))

theorem foreF_vals (F : List (List Hour)) : foreF F = 0 ∨ foreF F = 50 := by
  unfold foreF
  split
  · exact Or.inr rfl
  · exact Or.inl rfl
theorem foreF_bad {F : List (List Hour)} (h : foreF F = 0) : badF F = false := by
  cases hb : badF F with
  | false => rfl
  | true => simp [foreF, hb] at h

theorem f46 (F : List (List Hour)) (seen : List Sight) (hs : ForeSmall F) : Fn Try.prog 46 [.agg [.sl (scenRows F)], .sl (sightRows seen)] (.bool (far5 F seen)) := by
  have h1 := hs.scen
  have h86 := f86 F hs
  cases q1 : decide ((F.length : Int) > 8)
  case true =>
    refine fn_walk 44 Try.call46 Try.func46 rfl (by decide) fun J => ?_
    simp (maxSteps := 4000000) only [go_sem, St.start, Try.ntmps46, Try.results46]
    repeat (first | refine walkL_true rfl ?_ | refine walkL_false rfl ?_ | refine walkL_seq ?_ | refine walkL_skip ?_ | refine walkL_block ?_ | (refine walkL_region fun K hK => ?_; simp (maxSteps := 4000000) only [go_sem, q1]; refine hK _ ?_; clear hK K) | refine walkL_nil ?_ | refine walkL_ret ?_ | refine walkL_exit ?_ | refine blockA_here ?_ | refine blockA_other rfl ?_ | refine blockA_ret ?_ | refine blockA_normal ?_ | refine thenA_ret ?_ | refine thenA_exit ?_ | refine thenA_normal ?_)
    simp (maxSteps := 4000000) only [go_sem, far5, q1]
  case false =>
  cases q2 : decide ((seen.length : Int) > 22)
  case true =>
    refine fn_walk 44 Try.call46 Try.func46 rfl (by decide) fun J => ?_
    simp (maxSteps := 4000000) only [go_sem, St.start, Try.ntmps46, Try.results46]
    repeat (first | refine walkL_true rfl ?_ | refine walkL_false rfl ?_ | refine walkL_seq ?_ | refine walkL_skip ?_ | refine walkL_block ?_ | (refine walkL_region fun K hK => ?_; simp (maxSteps := 4000000) only [go_sem, q1, q2]; refine hK _ ?_; clear hK K) | refine walkL_nil ?_ | refine walkL_ret ?_ | refine walkL_exit ?_ | refine blockA_here ?_ | refine blockA_other rfl ?_ | refine blockA_ret ?_ | refine blockA_normal ?_ | refine thenA_ret ?_ | refine thenA_exit ?_ | refine thenA_normal ?_)
    simp (maxSteps := 4000000) only [go_sem, far5, q1, q2]
  case false =>
  refine fn_walk 44 Try.call46 Try.func46 rfl (by decide) fun J => ?_
  simp (maxSteps := 4000000) only [go_sem, St.start, Try.ntmps46, Try.results46]
  repeat (first | refine walkL_true rfl ?_ | refine walkL_false rfl ?_ | refine walkL_seq ?_ | refine walkL_skip ?_ | refine walkL_block ?_ | (refine walkL_region fun K hK => ?_; simp (maxSteps := 4000000) only [go_sem, q1, q2]; refine hK _ ?_; clear hK K) | refine walkL_nil ?_ | refine walkL_ret ?_ | refine walkL_exit ?_ | refine blockA_here ?_ | refine blockA_other rfl ?_ | refine blockA_ret ?_ | refine blockA_normal ?_ | refine thenA_ret ?_ | refine thenA_exit ?_ | refine thenA_normal ?_)
  refine walkL_loopS (fun (i : Nat) => [(5, .d (.i i))]) (fun _ => []) (fun i => i ≤ F.length ∧ farL (F.take i) = false) (fun i => F.length - i) 0 ?_ ⟨Nat.zero_le _, rfl⟩ ?_
  · simp (maxSteps := 4000000) only [go_sem]
    refine weak_of [] ?_ ?_ rfl rfl <;> simp [lessT, lessM, lessB, AV.less]
  · intro i ⟨hi, hall⟩
    simp (maxSteps := 4000000) only [go_sem]
    repeat (first | refine walkL_seq ?_ | refine walkL_skip ?_ | refine walkL_block ?_ | (refine walkL_region fun K hK => ?_; simp (maxSteps := 4000000) only [go_sem]; refine hK _ ?_; clear hK K) | refine walkL_nil ?_ | refine walkL_ret ?_ | refine walkL_exit ?_ | refine blockA_here ?_ | refine blockA_other rfl ?_ | refine blockA_ret ?_ | refine blockA_normal ?_ | refine thenA_ret ?_ | refine thenA_exit ?_ | refine thenA_normal ?_)
    refine walkL_cond rfl (fun hb => ?_) (fun hb => ?_)
    · have hlt : i < F.length := by simpa using hb
      have hw : IntKind.i64.wrap ((i : Int) + 1) = ((i + 1 : Nat) : Int) := by rw [wr_small (by omega)]; simp
      obtain ⟨l, hx⟩ : ∃ l, F[i]? = some l := ⟨_, List.getElem?_eq_getElem hlt⟩
      have g1 := scenRows_at hx
      cases q3 : decide ((l.length : Int) > 50)
      · repeat (first | refine walkL_true rfl ?_ | refine walkL_false rfl ?_ | refine walkL_seq ?_ | refine walkL_skip ?_ | refine walkL_block ?_ | (refine walkL_region fun K hK => ?_; simp (maxSteps := 4000000) only [go_sem, g1, q3, hw]; refine hK _ ?_; clear hK K) | refine walkL_nil ?_ | refine walkL_ret ?_ | refine walkL_exit ?_ | refine blockA_here ?_ | refine blockA_other rfl ?_ | refine blockA_ret ?_ | refine blockA_normal ?_ | refine thenA_ret ?_ | refine thenA_exit ?_ | refine thenA_normal ?_)
        refine ⟨rfl, i + 1, ?_, ⟨hlt, any_take_succ hx hall q3⟩, by omega⟩
        refine weak_of [] ?_ ?_ rfl rfl <;> simp [lessT, lessM, lessB, AV.less]
      · have e : farL F = true := any_of_get hx q3
        repeat (first | refine walkL_true rfl ?_ | refine walkL_false rfl ?_ | refine walkL_seq ?_ | refine walkL_skip ?_ | refine walkL_block ?_ | (refine walkL_region fun K hK => ?_; simp (maxSteps := 4000000) only [go_sem, g1, q3]; refine hK _ ?_; clear hK K) | refine walkL_nil ?_ | refine walkL_ret ?_ | refine walkL_exit ?_ | refine blockA_here ?_ | refine blockA_other rfl ?_ | refine blockA_ret ?_ | refine blockA_normal ?_ | refine thenA_ret ?_ | refine thenA_exit ?_ | refine thenA_normal ?_)
        simp (maxSteps := 4000000) only [go_sem, far5, e]
    · have he : i = F.length := by (have : ¬ i < F.length := by simpa using hb); omega
      subst he
      rw [List.take_length] at hall
      rcases foreF_vals F with e0 | e0
      · rw [e0] at h86
        have hg := fore_iff.1 (foreF_bad e0)
        have h0 := headD_get (F := F) (by have := hg.scen; omega)
        have h71 := f71 F _ h0
        change Fn Try.prog 71 _ (.i (hd0 F).length) at h71
        cases q4 : decide ((F.length : Int) > 4)
        · repeat (first | refine walkL_true rfl ?_ | refine walkL_false rfl ?_ | refine walkL_seq ?_ | refine walkL_skip ?_ | refine walkL_block ?_ | (refine walkL_region fun K hK => ?_; simp (maxSteps := 4000000) only [go_sem, q4]; (repeat (first | (refine ⟨_, .lent (hf := h86) (hd := rfl) (hr := rfl), ?_⟩; simp (maxSteps := 4000000) only [go_sem, q4]) | (refine ⟨_, .lent (hf := h71) (hd := rfl) (hr := rfl), ?_⟩; simp (maxSteps := 4000000) only [go_sem, q4]) | (refine ⟨_, .given (hf := h86) (hd := rfl) (ha := rfl), ?_⟩; simp (maxSteps := 4000000) only [go_sem, q4]) | (refine ⟨_, .given (hf := h71) (hd := rfl) (ha := rfl), ?_⟩; simp (maxSteps := 4000000) only [go_sem, q4]))); refine hK _ ?_; clear hK K) | refine walkL_nil ?_ | refine walkL_ret ?_ | refine walkL_exit ?_ | refine blockA_here ?_ | refine blockA_other rfl ?_ | refine blockA_ret ?_ | refine blockA_normal ?_ | refine thenA_ret ?_ | refine thenA_exit ?_ | refine thenA_normal ?_)
          simp (maxSteps := 4000000) only [go_sem, far5, q1, q2, hall, e0, q4]
        · repeat (first | refine walkL_true rfl ?_ | refine walkL_false rfl ?_ | refine walkL_seq ?_ | refine walkL_skip ?_ | refine walkL_block ?_ | (refine walkL_region fun K hK => ?_; simp (maxSteps := 4000000) only [go_sem, q4]; (repeat (first | (refine ⟨_, .lent (hf := h86) (hd := rfl) (hr := rfl), ?_⟩; simp (maxSteps := 4000000) only [go_sem, q4]) | (refine ⟨_, .lent (hf := h71) (hd := rfl) (hr := rfl), ?_⟩; simp (maxSteps := 4000000) only [go_sem, q4]) | (refine ⟨_, .given (hf := h86) (hd := rfl) (ha := rfl), ?_⟩; simp (maxSteps := 4000000) only [go_sem, q4]) | (refine ⟨_, .given (hf := h71) (hd := rfl) (ha := rfl), ?_⟩; simp (maxSteps := 4000000) only [go_sem, q4]))); refine hK _ ?_; clear hK K) | refine walkL_nil ?_ | refine walkL_ret ?_ | refine walkL_exit ?_ | refine blockA_here ?_ | refine blockA_other rfl ?_ | refine blockA_ret ?_ | refine blockA_normal ?_ | refine thenA_ret ?_ | refine thenA_exit ?_ | refine thenA_normal ?_)
          simp (maxSteps := 4000000) only [go_sem, far5, q1, q2, hall, e0, q4]
      · rw [e0] at h86
        repeat (first | refine walkL_true rfl ?_ | refine walkL_false rfl ?_ | refine walkL_seq ?_ | refine walkL_skip ?_ | refine walkL_block ?_ | (refine walkL_region fun K hK => ?_; simp (maxSteps := 4000000) only [go_sem]; (repeat (first | (refine ⟨_, .lent (hf := h86) (hd := rfl) (hr := rfl), ?_⟩; simp (maxSteps := 4000000) only [go_sem]) | (refine ⟨_, .given (hf := h86) (hd := rfl) (ha := rfl), ?_⟩; simp (maxSteps := 4000000) only [go_sem]))); refine hK _ ?_; clear hK K) | refine walkL_nil ?_ | refine walkL_ret ?_ | refine walkL_exit ?_ | refine blockA_here ?_ | refine blockA_other rfl ?_ | refine blockA_ret ?_ | refine blockA_normal ?_ | refine thenA_ret ?_ | refine thenA_exit ?_ | refine thenA_normal ?_)
        simp (maxSteps := 4000000) only [go_sem, far5, q1, q2, hall, e0]

def far10 (p : Plant) : Bool :=
  (far5 p.scen p.seen || (decide ((p.sun.length : Int) > 100) || decide ((p.needs.length : Int) > 100))) ||
  (decide (plantE p = 0) && (decide ((p.sun.length : Int) > 5) || (decide ((p.scen.length : Int) > 3) || decide (p.rate > 2))))

theorem f18 (p : Plant) (hs : PlantSmall p) : Fn Try.prog 18 [.agg p.cells] (.bool (far10 p)) := by
  have h46 := f46 p.scen p.seen hs.fore
  have h36 := f36 p hs
  rw [Plant.cells] at h36
  obtain ⟨b, eb⟩ : ∃ b, b = far5 p.scen p.seen := ⟨_, rfl⟩
  rw [far10, ← eb]
  rw [← eb] at h46
  cases b
  case true =>
    refine fn_walk 41 Try.call18 Try.func18 rfl (by decide) fun J => ?_
    simp (maxSteps := 4000000) only [go_sem, St.start, Try.ntmps18, Try.results18, Plant.cells]
    repeat (first | refine walkL_true rfl ?_ | refine walkL_false rfl ?_ | refine walkL_seq ?_ | refine walkL_skip ?_ | refine walkL_block ?_ | (refine walkL_region fun K hK => ?_; simp (maxSteps := 4000000) only [go_sem]; (repeat (first | (refine ⟨_, .lent (hf := h46) (hd := rfl) (hr := rfl), ?_⟩; simp (maxSteps := 4000000) only [go_sem]) | (refine ⟨_, .given (hf := h46) (hd := rfl) (ha := rfl), ?_⟩; simp (maxSteps := 4000000) only [go_sem]))); refine hK _ ?_; clear hK K) | refine walkL_nil ?_ | refine walkL_ret ?_ | refine walkL_exit ?_ | refine blockA_here ?_ | refine blockA_other rfl ?_ | refine blockA_ret ?_ | refine blockA_normal ?_ | refine thenA_ret ?_ | refine thenA_exit ?_ | refine thenA_normal ?_)
    simp (maxSteps := 4000000) only [go_sem]
  case false =>
  cases q1 : decide ((p.sun.length : Int) > 100)
  case true =>
    refine fn_walk 41 Try.call18 Try.func18 rfl (by decide) fun J => ?_
    simp (maxSteps := 4000000) only [go_sem, St.start, Try.ntmps18, Try.results18, Plant.cells]
    repeat (first | refine walkL_true rfl ?_ | refine walkL_false rfl ?_ | refine walkL_seq ?_ | refine walkL_skip ?_ | refine walkL_block ?_ | (refine walkL_region fun K hK => ?_; simp (maxSteps := 4000000) only [go_sem, q1]; (repeat (first | (refine ⟨_, .lent (hf := h46) (hd := rfl) (hr := rfl), ?_⟩; simp (maxSteps := 4000000) only [go_sem, q1]) | (refine ⟨_, .given (hf := h46) (hd := rfl) (ha := rfl), ?_⟩; simp (maxSteps := 4000000) only [go_sem, q1]))); refine hK _ ?_; clear hK K) | refine walkL_nil ?_ | refine walkL_ret ?_ | refine walkL_exit ?_ | refine blockA_here ?_ | refine blockA_other rfl ?_ | refine blockA_ret ?_ | refine blockA_normal ?_ | refine thenA_ret ?_ | refine thenA_exit ?_ | refine thenA_normal ?_)
    simp (maxSteps := 4000000) only [go_sem]
  case false =>
  cases q2 : decide ((p.needs.length : Int) > 100)
  case true =>
    refine fn_walk 41 Try.call18 Try.func18 rfl (by decide) fun J => ?_
    simp (maxSteps := 4000000) only [go_sem, St.start, Try.ntmps18, Try.results18, Plant.cells]
    repeat (first | refine walkL_true rfl ?_ | refine walkL_false rfl ?_ | refine walkL_seq ?_ | refine walkL_skip ?_ | refine walkL_block ?_ | (refine walkL_region fun K hK => ?_; simp (maxSteps := 4000000) only [go_sem, q1, q2]; (repeat (first | (refine ⟨_, .lent (hf := h46) (hd := rfl) (hr := rfl), ?_⟩; simp (maxSteps := 4000000) only [go_sem, q1, q2]) | (refine ⟨_, .given (hf := h46) (hd := rfl) (ha := rfl), ?_⟩; simp (maxSteps := 4000000) only [go_sem, q1, q2]))); refine hK _ ?_; clear hK K) | refine walkL_nil ?_ | refine walkL_ret ?_ | refine walkL_exit ?_ | refine blockA_here ?_ | refine blockA_other rfl ?_ | refine blockA_ret ?_ | refine blockA_normal ?_ | refine thenA_ret ?_ | refine thenA_exit ?_ | refine thenA_normal ?_)
    simp (maxSteps := 4000000) only [go_sem]
  case false =>
  by_cases e0 : plantE p = 0
  · rw [e0] at h36 ⊢
    cases q3 : decide ((p.sun.length : Int) > 5) <;> cases q4 : decide ((p.scen.length : Int) > 3)
    all_goals
      refine fn_walk 41 Try.call18 Try.func18 rfl (by decide) fun J => ?_
      simp (maxSteps := 4000000) only [go_sem, St.start, Try.ntmps18, Try.results18, Plant.cells]
      repeat (first | refine walkL_true rfl ?_ | refine walkL_false rfl ?_ | refine walkL_seq ?_ | refine walkL_skip ?_ | refine walkL_block ?_ | (refine walkL_region fun K hK => ?_; simp (maxSteps := 4000000) only [go_sem, q1, q2, q3, q4]; (repeat (first | (refine ⟨_, .lent (hf := h46) (hd := rfl) (hr := rfl), ?_⟩; simp (maxSteps := 4000000) only [go_sem, q1, q2, q3, q4]) | (refine ⟨_, .lent (hf := h36) (hd := rfl) (hr := rfl), ?_⟩; simp (maxSteps := 4000000) only [go_sem, q1, q2, q3, q4]) | (refine ⟨_, .given (hf := h46) (hd := rfl) (ha := rfl), ?_⟩; simp (maxSteps := 4000000) only [go_sem, q1, q2, q3, q4]) | (refine ⟨_, .given (hf := h36) (hd := rfl) (ha := rfl), ?_⟩; simp (maxSteps := 4000000) only [go_sem, q1, q2, q3, q4]))); refine hK _ ?_; clear hK K) | refine walkL_nil ?_ | refine walkL_ret ?_ | refine walkL_exit ?_ | refine blockA_here ?_ | refine blockA_other rfl ?_ | refine blockA_ret ?_ | refine blockA_normal ?_ | refine thenA_ret ?_ | refine thenA_exit ?_ | refine thenA_normal ?_)
      simp (maxSteps := 4000000) only [go_sem]
  · have q : (plantE p == 0) = false := by simpa using e0
    rw [decide_eq_false e0]
    refine fn_walk 41 Try.call18 Try.func18 rfl (by decide) fun J => ?_
    simp (maxSteps := 4000000) only [go_sem, St.start, Try.ntmps18, Try.results18, Plant.cells]
    repeat (first | refine walkL_true rfl ?_ | refine walkL_false rfl ?_ | refine walkL_seq ?_ | refine walkL_skip ?_ | refine walkL_block ?_ | (refine walkL_region fun K hK => ?_; simp (maxSteps := 4000000) only [go_sem, q1, q2, q]; (repeat (first | (refine ⟨_, .lent (hf := h46) (hd := rfl) (hr := rfl), ?_⟩; simp (maxSteps := 4000000) only [go_sem, q1, q2, q]) | (refine ⟨_, .lent (hf := h36) (hd := rfl) (hr := rfl), ?_⟩; simp (maxSteps := 4000000) only [go_sem, q1, q2, q]) | (refine ⟨_, .given (hf := h46) (hd := rfl) (ha := rfl), ?_⟩; simp (maxSteps := 4000000) only [go_sem, q1, q2, q]) | (refine ⟨_, .given (hf := h36) (hd := rfl) (ha := rfl), ?_⟩; simp (maxSteps := 4000000) only [go_sem, q1, q2, q]))); refine hK _ ?_; clear hK K) | refine walkL_nil ?_ | refine walkL_ret ?_ | refine walkL_exit ?_ | refine blockA_here ?_ | refine blockA_other rfl ?_ | refine blockA_ret ?_ | refine blockA_normal ?_ | refine thenA_ret ?_ | refine thenA_exit ?_ | refine thenA_normal ?_)
    simp (maxSteps := 4000000) only [go_sem]

def validB (p : Plant) : Bool := !far10 p && decide (plantE p = 0)

theorem f14 (p : Plant) (hs : PlantSmall p) : Fn Try.prog 14 [.agg p.cells] (.bool (validB p)) := by
  have h18 := f18 p hs
  have h36 := f36 p hs
  rw [Plant.cells] at h36 h18
  obtain ⟨b, eb⟩ : ∃ b, b = far10 p := ⟨_, rfl⟩
  rw [validB, ← eb]
  rw [← eb] at h18
  have q : (plantE p == 0) = decide (plantE p = 0) := rfl
  cases b
  · refine fn_walk 11 Try.call14 Try.func14 rfl (by decide) fun J => ?_
    simp (maxSteps := 4000000) only [go_sem, St.start, Try.ntmps14, Try.results14, Plant.cells]
    repeat (first | refine walkL_true rfl ?_ | refine walkL_false rfl ?_ | refine walkL_seq ?_ | refine walkL_skip ?_ | refine walkL_block ?_ | (refine walkL_region fun K hK => ?_; simp (maxSteps := 4000000) only [go_sem, q]; (repeat (first | (refine ⟨_, .lent (hf := h18) (hd := rfl) (hr := rfl), ?_⟩; simp (maxSteps := 4000000) only [go_sem, q]) | (refine ⟨_, .lent (hf := h36) (hd := rfl) (hr := rfl), ?_⟩; simp (maxSteps := 4000000) only [go_sem, q]) | (refine ⟨_, .given (hf := h18) (hd := rfl) (ha := rfl), ?_⟩; simp (maxSteps := 4000000) only [go_sem, q]) | (refine ⟨_, .given (hf := h36) (hd := rfl) (ha := rfl), ?_⟩; simp (maxSteps := 4000000) only [go_sem, q]))); refine hK _ ?_; clear hK K) | refine walkL_nil ?_ | refine walkL_ret ?_ | refine walkL_exit ?_ | refine blockA_here ?_ | refine blockA_other rfl ?_ | refine blockA_ret ?_ | refine blockA_normal ?_ | refine thenA_ret ?_ | refine thenA_exit ?_ | refine thenA_normal ?_)
    simp (maxSteps := 4000000) only [go_sem]
  · refine fn_walk 11 Try.call14 Try.func14 rfl (by decide) fun J => ?_
    simp (maxSteps := 4000000) only [go_sem, St.start, Try.ntmps14, Try.results14, Plant.cells]
    repeat (first | refine walkL_true rfl ?_ | refine walkL_false rfl ?_ | refine walkL_seq ?_ | refine walkL_skip ?_ | refine walkL_block ?_ | (refine walkL_region fun K hK => ?_; simp (maxSteps := 4000000) only [go_sem]; (repeat (first | (refine ⟨_, .lent (hf := h18) (hd := rfl) (hr := rfl), ?_⟩; simp (maxSteps := 4000000) only [go_sem]) | (refine ⟨_, .given (hf := h18) (hd := rfl) (ha := rfl), ?_⟩; simp (maxSteps := 4000000) only [go_sem]))); refine hK _ ?_; clear hK K) | refine walkL_nil ?_ | refine walkL_ret ?_ | refine walkL_exit ?_ | refine blockA_here ?_ | refine blockA_other rfl ?_ | refine blockA_ret ?_ | refine blockA_normal ?_ | refine thenA_ret ?_ | refine thenA_exit ?_ | refine thenA_normal ?_)
    simp (maxSteps := 4000000) only [go_sem]

theorem f31 (p : Plant) (h : Int) (s : Sky) (hh : 0 ≤ h ∧ h.toNat < p.sun.length) : Fn Try.prog 31 [.agg p.cells, .i h, .agg s.row] (.i (yieldW p h s)) := by
  have g1 : (intRows p.sun)[h.toNat]? = some [.i (getI p.sun h)] := intRows_get hh.1 hh.2
  have h50 := f50 s.wind p.start p.stop
  cases q : withinB s.wind p.start p.stop
  all_goals
    rw [q] at h50
    refine fn_walk 33 Try.call31 Try.func31 rfl (by decide) fun J => ?_
    simp (maxSteps := 4000000) only [go_sem, St.start, Try.ntmps31, Try.results31, Plant.cells, Sky.row]
    repeat (first | refine walkL_true rfl ?_ | refine walkL_false rfl ?_ | refine walkL_seq ?_ | refine walkL_skip ?_ | refine walkL_block ?_ | (refine walkL_region fun K hK => ?_; simp (maxSteps := 4000000) only [go_sem, hh.1, g1]; (repeat (first | (refine ⟨_, .lent (hf := h50) (hd := rfl) (hr := rfl), ?_⟩; simp (maxSteps := 4000000) only [go_sem, hh.1, g1]) | (refine ⟨_, .given (hf := h50) (hd := rfl) (ha := rfl), ?_⟩; simp (maxSteps := 4000000) only [go_sem, hh.1, g1]))); refine hK _ ?_; clear hK K) | (refine walkL_drawn (by kernel_rfl) (by kernel_rfl) fun K hK => ?_; simp (maxSteps := 4000000) only [go_sem, hh.1, g1]; (repeat (first | (refine ⟨_, .fn (hf := h50) (hd := rfl) (hr := .inl rfl), ?_⟩; simp (maxSteps := 4000000) only [go_sem, hh.1, g1]))); refine ⟨by kernel_rfl, hK _ ?_⟩; clear hK K) | refine walkL_nil ?_ | refine walkL_ret ?_ | refine walkL_exit ?_ | refine blockA_here ?_ | refine blockA_other rfl ?_ | refine blockA_ret ?_ | refine blockA_normal ?_ | refine thenA_ret ?_ | refine thenA_exit ?_ | refine thenA_normal ?_)
    simp (maxSteps := 4000000) only [go_sem, yieldW, q]

def isBurnB (p : Plant) (l : List Int) : Bool := (l.all fun n => withinB n 0 p.rate) && (((l.length : Int) == p.sun.length) && decide (sumI l ≤ p.units))

theorem sumI_take_succ {l : List Int} {i : Nat} {x : Int} (h : l[i]? = some x) : sumI (l.take (i + 1)) = sumI (l.take i) + x := foldl_take_succ _ _ _ _ _ h
end Go.Ab
namespace Go.Ab
open Go.RowKit Go.Proofs
set_option maxHeartbeats 8000000
set_option maxRecDepth 20000
attribute [local irreducible] WalkL Walk

theorem f21 (p : Plant) (l : List Int) (hr : 0 ≤ p.rate ∧ p.rate ≤ 1000) (hl : l.length < 2 ^ 30) : Fn Try.prog 21 [.agg p.cells, .sl (intRows l)] (.bool (isBurnB p l)) := by
  refine fn_walk 39 Try.call21 Try.func21 rfl (by decide) fun J => ?_
  simp (maxSteps := 4000000) only [go_sem, St.start, Try.ntmps21, Try.results21, Plant.cells]
  repeat (first | refine walkL_seq ?_ | refine walkL_skip ?_ | refine walkL_block ?_ | (refine walkL_region fun K hK => ?_; simp (maxSteps := 4000000) only [go_sem]; refine hK _ ?_; clear hK K) | refine walkL_nil ?_ | refine walkL_ret ?_ | refine walkL_exit ?_ | refine blockA_here ?_ | refine blockA_other rfl ?_ | refine blockA_ret ?_ | refine blockA_normal ?_ | refine thenA_ret ?_ | refine thenA_exit ?_ | refine thenA_normal ?_)
  refine walkL_loopS (fun (i : Nat) => [(6, .d (.i i)), (5, .d (.i (sumI (l.take i))))]) (fun _ => []) (fun i => i ≤ l.length ∧ (l.take i).all (fun n => withinB n 0 p.rate) = true) (fun i => l.length - i) 0 ?_ ⟨Nat.zero_le _, rfl⟩ ?_
  · simp (maxSteps := 4000000) only [go_sem]
    refine weak_of [] ?_ ?_ rfl rfl <;> simp [lessT, lessM, lessB, AV.less]
    first | done | rfl
  · intro i ⟨hi, hall⟩
    simp (maxSteps := 4000000) only [go_sem]
    repeat (first | refine walkL_seq ?_ | refine walkL_skip ?_ | refine walkL_block ?_ | (refine walkL_region fun K hK => ?_; simp (maxSteps := 4000000) only [go_sem]; refine hK _ ?_; clear hK K) | refine walkL_nil ?_ | refine walkL_ret ?_ | refine walkL_exit ?_ | refine blockA_here ?_ | refine blockA_other rfl ?_ | refine blockA_ret ?_ | refine blockA_normal ?_ | refine thenA_ret ?_ | refine thenA_exit ?_ | refine thenA_normal ?_)
    refine walkL_cond rfl (fun hb => ?_) (fun hb => ?_)
    · have hlt : i < l.length := by simpa using hb
      have hw : IntKind.i64.wrap ((i : Int) + 1) = ((i + 1 : Nat) : Int) := by rw [wr_small (by omega)]; simp
      obtain ⟨x, hx⟩ : ∃ x, l[i]? = some x := ⟨_, List.getElem?_eq_getElem hlt⟩
      have g1 := intRows_at hx
      have h50 := f50 x 0 p.rate
      have htk : l.take (i + 1) = l.take i ++ [x] := by rw [List.take_add_one, hx]; rfl
      have hin : ∀ y ∈ l.take i, 0 ≤ y ∧ y ≤ p.rate := fun y hy => within_iff.1 (List.all_eq_true.1 hall y hy)
      have hsum := sumI_range hr.1 hin
      have hlen : (l.take i).length = i := by simp; omega
      rw [hlen] at hsum
      have hri : p.rate * (i : Int) ≤ 1000 * (i : Int) := Int.mul_le_mul_of_nonneg_right hr.2 (by omega)
      cases hb1 : withinB x 0 p.rate with
      | false =>
        rw [hb1] at h50
        repeat (first | refine walkL_true rfl ?_ | refine walkL_false rfl ?_ | refine walkL_seq ?_ | refine walkL_skip ?_ | refine walkL_block ?_ | (refine walkL_region fun K hK => ?_; simp (maxSteps := 4000000) only [go_sem, g1]; (repeat (first | (refine ⟨_, .lent (hf := h50) (hd := rfl) (hr := rfl), ?_⟩; simp (maxSteps := 4000000) only [go_sem, g1]) | (refine ⟨_, .given (hf := h50) (hd := rfl) (ha := rfl), ?_⟩; simp (maxSteps := 4000000) only [go_sem, g1]))); refine hK _ ?_; clear hK K) | (refine walkL_drawn (by kernel_rfl) (by kernel_rfl) fun K hK => ?_; simp (maxSteps := 4000000) only [go_sem, g1]; (repeat (first | (refine ⟨_, .fn (hf := h50) (hd := rfl) (hr := .inl rfl), ?_⟩; simp (maxSteps := 4000000) only [go_sem, g1]))); refine ⟨by kernel_rfl, hK _ ?_⟩; clear hK K) | refine walkL_nil ?_ | refine walkL_ret ?_ | refine walkL_exit ?_ | refine blockA_here ?_ | refine blockA_other rfl ?_ | refine blockA_ret ?_ | refine blockA_normal ?_ | refine thenA_ret ?_ | refine thenA_exit ?_ | refine thenA_normal ?_)
        have : isBurnB p l = false := by unfold isBurnB; rw [all_of_get hx hb1]; rfl
        simp (maxSteps := 4000000) only [go_sem, this]
      | true =>
        rw [hb1] at h50
        have hxr := within_iff.1 hb1
        have hw2 : IntKind.i64.wrap (sumI (l.take i) + x) = sumI (l.take (i + 1)) := by rw [htk, sumI_push, wr_small (by omega)]
        repeat (first | refine walkL_true rfl ?_ | refine walkL_false rfl ?_ | refine walkL_seq ?_ | refine walkL_skip ?_ | refine walkL_block ?_ | (refine walkL_region fun K hK => ?_; simp (maxSteps := 4000000) only [go_sem, g1, hw, hw2]; (repeat (first | (refine ⟨_, .lent (hf := h50) (hd := rfl) (hr := rfl), ?_⟩; simp (maxSteps := 4000000) only [go_sem, g1, hw, hw2]) | (refine ⟨_, .given (hf := h50) (hd := rfl) (ha := rfl), ?_⟩; simp (maxSteps := 4000000) only [go_sem, g1, hw, hw2]))); refine hK _ ?_; clear hK K) | (refine walkL_drawn (by kernel_rfl) (by kernel_rfl) fun K hK => ?_; simp (maxSteps := 4000000) only [go_sem, g1, hw, hw2]; (repeat (first | (refine ⟨_, .fn (hf := h50) (hd := rfl) (hr := .inl rfl), ?_⟩; simp (maxSteps := 4000000) only [go_sem, g1, hw, hw2]))); refine ⟨by kernel_rfl, hK _ ?_⟩; clear hK K) | refine walkL_nil ?_ | refine walkL_ret ?_ | refine walkL_exit ?_ | refine blockA_here ?_ | refine blockA_other rfl ?_ | refine blockA_ret ?_ | refine blockA_normal ?_ | refine thenA_ret ?_ | refine thenA_exit ?_ | refine thenA_normal ?_)
        refine ⟨rfl, i + 1, ?_, ⟨hlt, all_take_succ hx hall hb1⟩, by omega⟩
        refine weak_of [] ?_ ?_ rfl rfl <;> simp [lessT, lessM, lessB, AV.less]
    · have he : i = l.length := by (have : ¬ i < l.length := by simpa using hb); omega
      subst he
      rw [List.take_length] at hall ⊢
      cases h : ((l.length : Int) == p.sun.length)
      all_goals
        repeat (first | refine walkL_seq ?_ | refine walkL_skip ?_ | refine walkL_block ?_ | (refine walkL_region fun K hK => ?_; simp (maxSteps := 4000000) only [go_sem, h]; refine hK _ ?_; clear hK K) | refine walkL_nil ?_ | refine walkL_ret ?_ | refine walkL_exit ?_ | refine blockA_here ?_ | refine blockA_other rfl ?_ | refine blockA_ret ?_ | refine blockA_normal ?_ | refine thenA_ret ?_ | refine thenA_exit ?_ | refine thenA_normal ?_)
        simp (maxSteps := 4000000) only [go_sem, isBurnB, h, hall]

theorem f23 (l : List Int) (R : Int) (hR : 0 ≤ R ∧ R ≤ 1000) (hr : ∀ x ∈ l, 0 ≤ x ∧ x ≤ R) (hl : l.length < 2 ^ 30) : Fn Try.prog 23 [.sl (intRows l)] (.i (sumI l)) := by
  refine fn_walk 18 Try.call23 Try.func23 rfl (by decide) fun J => ?_
  simp (maxSteps := 4000000) only [go_sem, St.start, Try.ntmps23, Try.results23]
  repeat (first | refine walkL_seq ?_ | refine walkL_skip ?_ | refine walkL_block ?_ | (refine walkL_region fun K hK => ?_; simp (maxSteps := 4000000) only [go_sem]; refine hK _ ?_; clear hK K) | refine walkL_nil ?_ | refine walkL_ret ?_ | refine walkL_exit ?_ | refine blockA_here ?_ | refine blockA_other rfl ?_ | refine blockA_ret ?_ | refine blockA_normal ?_ | refine thenA_ret ?_ | refine thenA_exit ?_ | refine thenA_normal ?_)
  refine walkL_loopS (fun (i : Nat) => [(4, .d (.i i)), (3, .d (.i (sumI (l.take i))))]) (fun _ => []) (fun i => i ≤ l.length) (fun i => l.length - i) 0 ?_ (Nat.zero_le _) ?_
  · simp (maxSteps := 4000000) only [go_sem]
    refine weak_of [] ?_ ?_ rfl rfl <;> simp [lessT, lessM, lessB, AV.less]
    first | done | rfl
  · intro i hi
    simp (maxSteps := 4000000) only [go_sem]
    repeat (first | refine walkL_seq ?_ | refine walkL_skip ?_ | refine walkL_block ?_ | (refine walkL_region fun K hK => ?_; simp (maxSteps := 4000000) only [go_sem]; refine hK _ ?_; clear hK K) | refine walkL_nil ?_ | refine walkL_ret ?_ | refine walkL_exit ?_ | refine blockA_here ?_ | refine blockA_other rfl ?_ | refine blockA_ret ?_ | refine blockA_normal ?_ | refine thenA_ret ?_ | refine thenA_exit ?_ | refine thenA_normal ?_)
    refine walkL_cond rfl (fun hb => ?_) (fun hb => ?_)
    · have hlt : i < l.length := by simpa using hb
      have hw : IntKind.i64.wrap ((i : Int) + 1) = ((i + 1 : Nat) : Int) := by rw [wr_small (by omega)]; simp
      obtain ⟨x, hx⟩ : ∃ x, l[i]? = some x := ⟨_, List.getElem?_eq_getElem hlt⟩
      have g1 := intRows_at hx
      have htk : l.take (i + 1) = l.take i ++ [x] := by rw [List.take_add_one, hx]; rfl
      have hsum := sumI_range (l := l.take i) hR.1 (fun y hy => hr y (List.mem_of_mem_take hy))
      have hxr := hr x (List.mem_of_getElem? hx)
      have hlen : (l.take i).length = i := by simp; omega
      rw [hlen] at hsum
      have hri : R * (i : Int) ≤ 1000 * (i : Int) := Int.mul_le_mul_of_nonneg_right hR.2 (by omega)
      have hw2 : IntKind.i64.wrap (sumI (l.take i) + x) = sumI (l.take (i + 1)) := by rw [htk, sumI_push, wr_small (by omega)]
      repeat (first | refine walkL_seq ?_ | refine walkL_skip ?_ | refine walkL_block ?_ | (refine walkL_region fun K hK => ?_; simp (maxSteps := 4000000) only [go_sem, g1, hw, hw2]; refine hK _ ?_; clear hK K) | refine walkL_nil ?_ | refine walkL_ret ?_ | refine walkL_exit ?_ | refine blockA_here ?_ | refine blockA_other rfl ?_ | refine blockA_ret ?_ | refine blockA_normal ?_ | refine thenA_ret ?_ | refine thenA_exit ?_ | refine thenA_normal ?_)
      refine ⟨rfl, i + 1, ?_, hlt, by omega⟩
      refine weak_of [] ?_ ?_ rfl rfl <;> simp [lessT, lessM, lessB, AV.less]
    · have he : i = l.length := by (have : ¬ i < l.length := by simpa using hb); omega
      subst he
      rw [List.take_length]
      repeat (first | refine walkL_seq ?_ | refine walkL_skip ?_ | refine walkL_block ?_ | (refine walkL_region fun K hK => ?_; simp (maxSteps := 4000000) only [go_sem]; refine hK _ ?_; clear hK K) | refine walkL_nil ?_ | refine walkL_ret ?_ | refine walkL_exit ?_ | refine blockA_here ?_ | refine blockA_other rfl ?_ | refine blockA_ret ?_ | refine blockA_normal ?_ | refine thenA_ret ?_ | refine thenA_exit ?_ | refine thenA_normal ?_)
      simp (maxSteps := 4000000) only [go_sem]

/-! ### Weathers of the document -/

def skyB (s t : Sky) : Bool := (s.wind == t.wind) && ((s.rain == t.rain) && (s.temp == t.temp))
def inAt (l : List Hour) (m : List Sky) (j : Nat) : Bool := insideB (skyAt m j) (hourAt l (j : Int))
def inTo (l : List Hour) (m : List Sky) : Nat → Bool
  | 0 => true
  | k + 1 => inTo l m k && inAt l m k
def seenEq (seen : List Sight) (m : List Sky) : Bool := seen.all fun s => skyB (skyAt m s.hour.toNat) s.sky
def scenAt (F : List (List Hour)) (k : Int) : List Hour := F.getD k.toNat []
def weB (F : List (List Hour)) (seen : List Sight) (m : List Sky) : Bool :=
  ((m.length : Int) == (hd0 F).length) && (seenEq seen m && (numsOf (possL F seen)).any fun k => inTo (scenAt F k) m m.length)

theorem nums_get {F : List (List Hour)} {seen : List Sight} {i : Nat} {k : Int} (h : (numsOf (possL F seen))[i]? = some k) :
    0 ≤ k ∧ ∃ l, F[k.toNat]? = some l ∧ scenAt F k = l ∧ agreesB seen l = true ∧ (possL F seen)[i]? = some (k.toNat, seenHours seen l) := by
  simp only [numsOf, List.getElem?_map, Option.map_eq_some_iff] at h
  obtain ⟨⟨j, l'⟩, h1, rfl⟩ := h
  obtain ⟨l, h2, h3, h4, h5⟩ := poss_get F 0 i j l' h1
  rw [Nat.sub_zero] at h3
  refine ⟨by omega, l, ?_, ?_, h5, ?_⟩
  · simpa using h3
  · simp [scenAt, h3]
  · simpa [← h4] using h1

theorem f60 (F : List (List Hour)) (seen : List Sight) (m : List Sky) (hg : ForeGood F) (hsi : sightsB (hd0 F).length seen = true) :
    Fn Try.prog 60 [.agg [.sl (scenRows F)], .sl (sightRows seen), .sl (skyRows m)] (.bool (weB F seen m)) := by
  obtain ⟨s1, s2, s3⟩ := sights_spec hsi
  have hF := hg.scen
  have hH := hg.hours
  have h0 := headD_get (F := F) (by omega)
  have h71 := f71 F _ h0
  change Fn Try.prog 71 _ (.i (hd0 F).length) at h71
  have h69 := f69 F seen hg hsi
  obtain ⟨H, eH⟩ : ∃ H, H = (hd0 F).length := ⟨_, rfl⟩
  have hlen := hg.len
  rw [weB]
  rw [← eH] at h71 hH s1 hlen ⊢
  cases q1 : ((m.length : Int) == (H : Int))
  · have q : ((m.length : Int) != (H : Int)) = true := by simpa using q1
    refine fn_walk 73 Try.call60 Try.func60 rfl (by decide) fun J => ?_
    simp (maxSteps := 4000000) only [go_sem, St.start, Try.ntmps60, Try.results60]
    repeat (first | refine walkL_true rfl ?_ | refine walkL_false rfl ?_ | refine walkL_seq ?_ | refine walkL_skip ?_ | refine walkL_block ?_ | (refine walkL_region fun K hK => ?_; simp (maxSteps := 4000000) only [go_sem, q]; (repeat (first | (refine ⟨_, .lent (hf := h71) (hd := rfl) (hr := rfl), ?_⟩; simp (maxSteps := 4000000) only [go_sem, q]) | (refine ⟨_, .given (hf := h71) (hd := rfl) (ha := rfl), ?_⟩; simp (maxSteps := 4000000) only [go_sem, q]))); refine hK _ ?_; clear hK K) | refine walkL_nil ?_ | refine walkL_ret ?_ | refine walkL_exit ?_ | refine blockA_here ?_ | refine blockA_other rfl ?_ | refine blockA_ret ?_ | refine blockA_normal ?_ | refine thenA_ret ?_ | refine thenA_exit ?_ | refine thenA_normal ?_)
    simp (maxSteps := 4000000) only [go_sem]
  · have q : ((m.length : Int) != (H : Int)) = false := by simpa using q1
    have em : m.length = H := by have : (m.length : Int) = H := by simpa using q1
                                 omega
    refine fn_walk 73 Try.call60 Try.func60 rfl (by decide) fun J => ?_
    simp (maxSteps := 4000000) only [go_sem, St.start, Try.ntmps60, Try.results60]
    repeat (first | refine walkL_true rfl ?_ | refine walkL_false rfl ?_ | refine walkL_seq ?_ | refine walkL_skip ?_ | refine walkL_block ?_ | (refine walkL_region fun K hK => ?_; simp (maxSteps := 4000000) only [go_sem, q]; (repeat (first | (refine ⟨_, .lent (hf := h71) (hd := rfl) (hr := rfl), ?_⟩; simp (maxSteps := 4000000) only [go_sem, q]) | (refine ⟨_, .given (hf := h71) (hd := rfl) (ha := rfl), ?_⟩; simp (maxSteps := 4000000) only [go_sem, q]))); refine hK _ ?_; clear hK K) | refine walkL_nil ?_ | refine walkL_ret ?_ | refine walkL_exit ?_ | refine blockA_here ?_ | refine blockA_other rfl ?_ | refine blockA_ret ?_ | refine blockA_normal ?_ | refine thenA_ret ?_ | refine thenA_exit ?_ | refine thenA_normal ?_)
    refine walkL_loopS (fun (i : Nat) => [(7, .d (.i i))]) (fun _ => []) (fun i => i ≤ seen.length ∧ seenEq (seen.take i) m = true) (fun i => seen.length - i) 0 ?_ ⟨Nat.zero_le _, rfl⟩ ?_
    · simp (maxSteps := 4000000) only [go_sem]
      refine weak_of [] ?_ ?_ rfl rfl <;> simp [lessT, lessM, lessB, AV.less]
    · intro i ⟨hi, hall⟩
      simp (maxSteps := 4000000) only [go_sem]
      repeat (first | refine walkL_seq ?_ | refine walkL_skip ?_ | refine walkL_block ?_ | (refine walkL_region fun K hK => ?_; simp (maxSteps := 4000000) only [go_sem]; refine hK _ ?_; clear hK K) | refine walkL_nil ?_ | refine walkL_ret ?_ | refine walkL_exit ?_ | refine blockA_here ?_ | refine blockA_other rfl ?_ | refine blockA_ret ?_ | refine blockA_normal ?_ | refine thenA_ret ?_ | refine thenA_exit ?_ | refine thenA_normal ?_)
      refine walkL_cond rfl (fun hb => ?_) (fun hb => ?_)
      · have hlt : i < seen.length := by simpa using hb
        have hw : IntKind.i64.wrap ((i : Int) + 1) = ((i + 1 : Nat) : Int) := by rw [wr_small (by omega)]; simp
        obtain ⟨s, hx⟩ : ∃ s, seen[i]? = some s := ⟨_, List.getElem?_eq_getElem hlt⟩
        have g1 := sightRows_at hx
        have hr := s1 s (List.mem_of_getElem? hx)
        have g2 := skyRows_at (skyAt_get (l := m) (i := s.hour.toNat) (by omega))
        cases q2 : skyB (skyAt m s.hour.toNat) s.sky
        · have e : seenEq seen m = false := all_of_get hx q2
          unfold skyB at q2
          repeat (first | refine walkL_true rfl ?_ | refine walkL_false rfl ?_ | refine walkL_seq ?_ | refine walkL_skip ?_ | refine walkL_block ?_ | (refine walkL_region fun K hK => ?_; simp (maxSteps := 4000000) only [go_sem, g1, g2, hr.1, Sight.row, Sky.row, q2]; refine hK _ ?_; clear hK K) | (refine walkL_drawn (by kernel_rfl) (by kernel_rfl) fun K hK => ?_; simp (maxSteps := 4000000) only [go_sem, g1, g2, hr.1, Sight.row, Sky.row, q2]; refine ⟨by kernel_rfl, hK _ ?_⟩; clear hK K) | refine walkL_nil ?_ | refine walkL_ret ?_ | refine walkL_exit ?_ | refine blockA_here ?_ | refine blockA_other rfl ?_ | refine blockA_ret ?_ | refine blockA_normal ?_ | refine thenA_ret ?_ | refine thenA_exit ?_ | refine thenA_normal ?_)
          simp (maxSteps := 4000000) only [go_sem, e]
        · have e : seenEq (seen.take (i + 1)) m = true := by
            have hq := q2
            unfold seenEq at hall ⊢
            exact all_take_succ (q := fun s => skyB (skyAt m s.hour.toNat) s.sky) hx hall hq
          unfold skyB at q2
          repeat (first | refine walkL_true rfl ?_ | refine walkL_false rfl ?_ | refine walkL_seq ?_ | refine walkL_skip ?_ | refine walkL_block ?_ | (refine walkL_region fun K hK => ?_; simp (maxSteps := 4000000) only [go_sem, g1, g2, hr.1, Sight.row, Sky.row, q2, hw]; refine hK _ ?_; clear hK K) | (refine walkL_drawn (by kernel_rfl) (by kernel_rfl) fun K hK => ?_; simp (maxSteps := 4000000) only [go_sem, g1, g2, hr.1, Sight.row, Sky.row, q2, hw]; refine ⟨by kernel_rfl, hK _ ?_⟩; clear hK K) | refine walkL_nil ?_ | refine walkL_ret ?_ | refine walkL_exit ?_ | refine blockA_here ?_ | refine blockA_other rfl ?_ | refine blockA_ret ?_ | refine blockA_normal ?_ | refine thenA_ret ?_ | refine thenA_exit ?_ | refine thenA_normal ?_)
          refine ⟨rfl, i + 1, ?_, ⟨hlt, e⟩, by omega⟩
          refine weak_of [] ?_ ?_ rfl rfl <;> simp [lessT, lessM, lessB, AV.less]
      · have he : i = seen.length := by (have : ¬ i < seen.length := by simpa using hb); omega
        subst he
        rw [List.take_length] at hall
        rw [hall]
        repeat (first | refine walkL_seq ?_ | refine walkL_skip ?_ | refine walkL_block ?_ | (refine walkL_region fun K hK => ?_; simp (maxSteps := 4000000) only [go_sem]; (repeat (first | (refine ⟨_, .lent (hf := h69) (hd := rfl) (hr := rfl), ?_⟩; simp (maxSteps := 4000000) only [go_sem]) | (refine ⟨_, .given (hf := h69) (hd := rfl) (ha := rfl), ?_⟩; simp (maxSteps := 4000000) only [go_sem]))); refine hK _ ?_; clear hK K) | refine walkL_nil ?_ | refine walkL_ret ?_ | refine walkL_exit ?_ | refine blockA_here ?_ | refine blockA_other rfl ?_ | refine blockA_ret ?_ | refine blockA_normal ?_ | refine thenA_ret ?_ | refine thenA_exit ?_ | refine thenA_normal ?_)
        have hpl := possFrom_len seen F 0
        change (possL F seen).length ≤ _ at hpl
        refine walkL_loopS (fun (i : Nat) => [(9, .d (.i i)), (10, .undef), (11, .undef)]) (fun _ => []) (fun i => i ≤ (numsOf (possL F seen)).length ∧ ((numsOf (possL F seen)).take i).any (fun k => inTo (scenAt F k) m m.length) = false) (fun i => (numsOf (possL F seen)).length - i) 0 ?_ ⟨Nat.zero_le _, rfl⟩ ?_
        · simp (maxSteps := 4000000) only [go_sem]
          refine weak_of [] ?_ ?_ rfl rfl <;> simp [lessT, lessM, lessB, AV.less]
        · intro i ⟨hi, hany⟩
          have hnl := nums_len (possL F seen)
          simp (maxSteps := 4000000) only [go_sem]
          repeat (first | refine walkL_seq ?_ | refine walkL_skip ?_ | refine walkL_block ?_ | (refine walkL_region fun K hK => ?_; simp (maxSteps := 4000000) only [go_sem]; refine hK _ ?_; clear hK K) | refine walkL_nil ?_ | refine walkL_ret ?_ | refine walkL_exit ?_ | refine blockA_here ?_ | refine blockA_other rfl ?_ | refine blockA_ret ?_ | refine blockA_normal ?_ | refine thenA_ret ?_ | refine thenA_exit ?_ | refine thenA_normal ?_)
          refine walkL_cond rfl (fun hb => ?_) (fun hb => ?_)
          · have hlt : i < (numsOf (possL F seen)).length := by simpa using hb
            have hw : IntKind.i64.wrap ((i : Int) + 1) = ((i + 1 : Nat) : Int) := by rw [wr_small (by omega)]; simp
            obtain ⟨k, hk⟩ : ∃ k, (numsOf (possL F seen))[i]? = some k := ⟨_, List.getElem?_eq_getElem hlt⟩
            obtain ⟨hk0, l, hl, hsl, _, _⟩ := nums_get hk
            have g1 := intRows_at hk
            have g2 := scenRows_at hl
            have hll := hlen l (List.mem_of_getElem? hl)
            repeat (first | refine walkL_seq ?_ | refine walkL_skip ?_ | refine walkL_block ?_ | (refine walkL_region fun K hK => ?_; simp (maxSteps := 4000000) only [go_sem]; refine hK _ ?_; clear hK K) | refine walkL_nil ?_ | refine walkL_ret ?_ | refine walkL_exit ?_ | refine blockA_here ?_ | refine blockA_other rfl ?_ | refine blockA_ret ?_ | refine blockA_normal ?_ | refine thenA_ret ?_ | refine thenA_exit ?_ | refine thenA_normal ?_)
            refine walkL_loopS (fun (j : Nat) => [(11, .d (.i j)), (10, .d (.bool (inTo l m j)))]) (fun _ => []) (fun j => j ≤ m.length) (fun j => m.length - j) 0 ?_ (Nat.zero_le _) ?_
            · simp (maxSteps := 4000000) only [go_sem]
              refine weak_of [] ?_ ?_ rfl rfl <;> simp [lessT, lessM, lessB, AV.less]
              all_goals first | done | rfl
            · intro j hj
              simp (maxSteps := 4000000) only [go_sem]
              repeat (first | refine walkL_seq ?_ | refine walkL_skip ?_ | refine walkL_block ?_ | (refine walkL_region fun K hK => ?_; simp (maxSteps := 4000000) only [go_sem]; refine hK _ ?_; clear hK K) | refine walkL_nil ?_ | refine walkL_ret ?_ | refine walkL_exit ?_ | refine blockA_here ?_ | refine blockA_other rfl ?_ | refine blockA_ret ?_ | refine blockA_normal ?_ | refine thenA_ret ?_ | refine thenA_exit ?_ | refine thenA_normal ?_)
              refine walkL_cond rfl (fun hb => ?_) (fun hb => ?_)
              · have hltj : j < m.length := by simpa using hb
                have hwj : IntKind.i64.wrap ((j : Int) + 1) = ((j + 1 : Nat) : Int) := by rw [wr_small (by omega)]; simp
                have g3 := skyRows_at (skyAt_get hltj)
                have g4 := hourRows_at (hourAt_get (l := l) (i := (j : Int)) ⟨by omega, by omega⟩)
                rw [Int.toNat_natCast] at g4
                have h90 := f90 (skyAt m j) (hourAt l j)
                rw [Sky.row, Hour.row] at h90
                have e : inTo l m (j + 1) = (inTo l m j && insideB (skyAt m j) (hourAt l j)) := rfl
                cases q3 : inTo l m j
                · rw [q3, Bool.false_and] at e
                  repeat (first | refine walkL_true rfl ?_ | refine walkL_false rfl ?_ | refine walkL_seq ?_ | refine walkL_skip ?_ | refine walkL_block ?_ | (refine walkL_region fun K hK => ?_; simp (maxSteps := 4000000) only [go_sem, hwj]; refine hK _ ?_; clear hK K) | (refine walkL_drawn (by kernel_rfl) (by kernel_rfl) fun K hK => ?_; simp (maxSteps := 4000000) only [go_sem, hwj]; refine ⟨by kernel_rfl, hK _ ?_⟩; clear hK K) | refine walkL_nil ?_ | refine walkL_ret ?_ | refine walkL_exit ?_ | refine blockA_here ?_ | refine blockA_other rfl ?_ | refine blockA_ret ?_ | refine blockA_normal ?_ | refine thenA_ret ?_ | refine thenA_exit ?_ | refine thenA_normal ?_)
                  refine ⟨rfl, j + 1, ?_, hltj, by omega⟩
                  rw [e]
                  refine weak_of [] ?_ ?_ rfl rfl <;> simp [lessT, lessM, lessB, AV.less]
                · rw [q3, Bool.true_and] at e
                  repeat (first | refine walkL_true rfl ?_ | refine walkL_false rfl ?_ | refine walkL_seq ?_ | refine walkL_skip ?_ | refine walkL_block ?_ | (refine walkL_region fun K hK => ?_; simp (maxSteps := 4000000) only [go_sem, g1, g2, g3, g4, hk0, Sky.row, Hour.row, hwj]; (repeat (first | (refine ⟨_, .lent (hf := h90) (hd := rfl) (hr := rfl), ?_⟩; simp (maxSteps := 4000000) only [go_sem, g1, g2, g3, g4, hk0, Sky.row, Hour.row, hwj]) | (refine ⟨_, .given (hf := h90) (hd := rfl) (ha := rfl), ?_⟩; simp (maxSteps := 4000000) only [go_sem, g1, g2, g3, g4, hk0, Sky.row, Hour.row, hwj]))); refine hK _ ?_; clear hK K) | (refine walkL_drawn (by kernel_rfl) (by kernel_rfl) fun K hK => ?_; simp (maxSteps := 4000000) only [go_sem, g1, g2, g3, g4, hk0, Sky.row, Hour.row, hwj]; (repeat (first | (refine ⟨_, .fn (hf := h90) (hd := rfl) (hr := .inl rfl), ?_⟩; simp (maxSteps := 4000000) only [go_sem, g1, g2, g3, g4, hk0, Sky.row, Hour.row, hwj]))); refine ⟨by kernel_rfl, hK _ ?_⟩; clear hK K) | refine walkL_nil ?_ | refine walkL_ret ?_ | refine walkL_exit ?_ | refine blockA_here ?_ | refine blockA_other rfl ?_ | refine blockA_ret ?_ | refine blockA_normal ?_ | refine thenA_ret ?_ | refine thenA_exit ?_ | refine thenA_normal ?_)
                  refine ⟨rfl, j + 1, ?_, hltj, by omega⟩
                  rw [e]
                  refine weak_of [] ?_ ?_ rfl rfl <;> simp [lessT, lessM, lessB, AV.less]
              · have he : j = m.length := by (have : ¬ j < m.length := by simpa using hb); omega
                subst he
                cases q4 : inTo l m m.length
                · repeat (first | refine walkL_true rfl ?_ | refine walkL_false rfl ?_ | refine walkL_seq ?_ | refine walkL_skip ?_ | refine walkL_block ?_ | (refine walkL_region fun K hK => ?_; simp (maxSteps := 4000000) only [go_sem, hw]; refine hK _ ?_; clear hK K) | refine walkL_nil ?_ | refine walkL_ret ?_ | refine walkL_exit ?_ | refine blockA_here ?_ | refine blockA_other rfl ?_ | refine blockA_ret ?_ | refine blockA_normal ?_ | refine thenA_ret ?_ | refine thenA_exit ?_ | refine thenA_normal ?_)
                  refine ⟨rfl, i + 1, ?_, ⟨hlt, any_take_succ hk hany (by rw [hsl]; exact q4)⟩, by omega⟩
                  refine weak_of [] ?_ ?_ rfl rfl <;> simp [lessT, lessM, lessB, AV.less]
                · have e : ((numsOf (possL F seen)).any fun k => inTo (scenAt F k) m m.length) = true := any_of_get hk (by rw [hsl]; exact q4)
                  repeat (first | refine walkL_true rfl ?_ | refine walkL_false rfl ?_ | refine walkL_seq ?_ | refine walkL_skip ?_ | refine walkL_block ?_ | (refine walkL_region fun K hK => ?_; simp (maxSteps := 4000000) only [go_sem]; refine hK _ ?_; clear hK K) | refine walkL_nil ?_ | refine walkL_ret ?_ | refine walkL_exit ?_ | refine blockA_here ?_ | refine blockA_other rfl ?_ | refine blockA_ret ?_ | refine blockA_normal ?_ | refine thenA_ret ?_ | refine thenA_exit ?_ | refine thenA_normal ?_)
                  simp (maxSteps := 4000000) only [go_sem, e]
          · have he : i = (numsOf (possL F seen)).length := by (have : ¬ i < (numsOf (possL F seen)).length := by simpa using hb); omega
            subst he
            rw [List.take_length] at hany
            repeat (first | refine walkL_seq ?_ | refine walkL_skip ?_ | refine walkL_block ?_ | (refine walkL_region fun K hK => ?_; simp (maxSteps := 4000000) only [go_sem]; refine hK _ ?_; clear hK K) | refine walkL_nil ?_ | refine walkL_ret ?_ | refine walkL_exit ?_ | refine blockA_here ?_ | refine blockA_other rfl ?_ | refine blockA_ret ?_ | refine blockA_normal ?_ | refine thenA_ret ?_ | refine thenA_exit ?_ | refine thenA_normal ?_)
            simp (maxSteps := 4000000) only [go_sem, hany]

theorem f29 (p : Plant) (m : List Sky) (hg : ForeGood p.scen) (hsi : sightsB (hd0 p.scen).length p.seen = true) (hl : m.length < 2 ^ 30) :
    Fn Try.prog 29 [.agg p.cells, .sl (skyRows m)] (.bool (weB p.scen p.seen m)) := by
  have h60 := f60 p.scen p.seen m hg hsi
  have hH := hg.hours
  cases q : decide ((m.length : Int) ≤ 100)
  · have : ¬ (m.length : Int) ≤ 100 := of_decide_eq_false q
    have e : weB p.scen p.seen m = false := by
      have : ((m.length : Int) == ((hd0 p.scen).length : Int)) = false := by simp; omega
      rw [weB, this]; rfl
    rw [e]
    refine fn_walk 16 Try.call29 Try.func29 rfl (by decide) fun J => ?_
    simp (maxSteps := 4000000) only [go_sem, St.start, Try.ntmps29, Try.results29, Plant.cells]
    repeat (first | refine walkL_true rfl ?_ | refine walkL_false rfl ?_ | refine walkL_seq ?_ | refine walkL_skip ?_ | refine walkL_block ?_ | (refine walkL_region fun K hK => ?_; simp (maxSteps := 4000000) only [go_sem, q]; refine hK _ ?_; clear hK K) | refine walkL_nil ?_ | refine walkL_ret ?_ | refine walkL_exit ?_ | refine blockA_here ?_ | refine blockA_other rfl ?_ | refine blockA_ret ?_ | refine blockA_normal ?_ | refine thenA_ret ?_ | refine thenA_exit ?_ | refine thenA_normal ?_)
    simp (maxSteps := 4000000) only [go_sem]
  · refine fn_walk 16 Try.call29 Try.func29 rfl (by decide) fun J => ?_
    simp (maxSteps := 4000000) only [go_sem, St.start, Try.ntmps29, Try.results29, Plant.cells]
    repeat (first | refine walkL_true rfl ?_ | refine walkL_false rfl ?_ | refine walkL_seq ?_ | refine walkL_skip ?_ | refine walkL_block ?_ | (refine walkL_region fun K hK => ?_; simp (maxSteps := 4000000) only [go_sem, q]; (repeat (first | (refine ⟨_, .lent (hf := h60) (hd := rfl) (hr := rfl), ?_⟩; simp (maxSteps := 4000000) only [go_sem, q]) | (refine ⟨_, .given (hf := h60) (hd := rfl) (ha := rfl), ?_⟩; simp (maxSteps := 4000000) only [go_sem, q]))); refine hK _ ?_; clear hK K) | refine walkL_nil ?_ | refine walkL_ret ?_ | refine walkL_exit ?_ | refine blockA_here ?_ | refine blockA_other rfl ?_ | refine blockA_ret ?_ | refine blockA_normal ?_ | refine thenA_ret ?_ | refine thenA_exit ?_ | refine thenA_normal ?_)
    simp (maxSteps := 4000000) only [go_sem]
end Go.Ab
namespace Go.Ab
open Go.RowKit Go.Proofs
set_option maxHeartbeats 4000000
set_option maxRecDepth 20000

/-! ### Plain laws: what a valid plant is, yields, levels -/

structure PlantGood (p : Plant) : Prop where
  fore : ForeGood p.scen
  sights : sightsB (hd0 p.scen).length p.seen = true
  poss : possL p.scen p.seen ≠ []
  sun : p.sun.length = (hd0 p.scen).length
  needs : p.needs.length = (hd0 p.scen).length
  sunIn : ∀ x ∈ p.sun, 0 ≤ x ∧ x ≤ 10000
  needsIn : ∀ x ∈ p.needs, 0 ≤ x ∧ x ≤ 20000
  gain : 0 ≤ p.gain ∧ p.gain ≤ 100
  start : 0 ≤ p.start ∧ p.start ≤ p.stop ∧ p.stop ≤ 200
  capacity : 0 ≤ p.capacity ∧ p.capacity ≤ 100000
  charge : 0 ≤ p.charge ∧ p.charge ≤ p.capacity
  reserve : 0 ≤ p.reserve ∧ p.reserve ≤ p.capacity
  gas : 0 ≤ p.gas ∧ p.gas ≤ 10000
  rate : 0 ≤ p.rate ∧ p.rate ≤ 10
  units : 0 ≤ p.units ∧ p.units ≤ 200

theorem powerB_iff {H : Int} {l : List Int} : powerB H l = true ↔ (l.length : Int) = H ∧ ∀ x ∈ l, 0 ≤ x ∧ x ≤ 10000 := by
  unfold powerB
  rw [any_not, Bool.and_eq_true, beq_iff_eq, List.all_eq_true]
  exact and_congr Iff.rfl ⟨fun h x hx => within_iff.1 (h x hx), fun h x hx => within_iff.2 (h x hx)⟩

theorem plant_good {p : Plant} (h : plantE p = 0) : PlantGood p := by
  unfold plantE at h
  split at h
  · rename_i hlk
    obtain ⟨hg, hsi, hpn⟩ := look_zero hlk
    split at h
    · cases h
    · rename_i hb
      have hb := Bool.eq_false_iff.2 hb
      unfold plantBad at hb
      simp only [Bool.or_eq_false_iff, Bool.not_eq_false', decide_eq_false_iff_not] at hb
      obtain ⟨b1, b2, b3, b4, b5, b6, b7, b8, b9, b10, b11⟩ := hb
      have b1 := powerB_iff.1 b1
      have b2 := powerB_iff.1 b2
      have b3 := within_iff.1 b3
      have b4 := within_iff.1 b4
      have b6 := within_iff.1 b6
      have b7 := within_iff.1 b7
      have b8 := within_iff.1 b8
      have b9 := within_iff.1 b9
      have b10 := within_iff.1 b10
      have b11 := within_iff.1 b11
      unfold hoursOf at b1 b2
      exact ⟨hg, hsi, hpn, by omega, by omega, b1.2, fun x hx => by have := b2.2 x hx; omega, b3, ⟨b4.1, b4.2, by omega⟩, b6, b7, b8, b9, b10, b11⟩
  · rename_i hlk; exact absurd h hlk

/-- The grid of a good plant. -/
theorem grid_good {p : Plant} (hg : PlantGood p) : ∃ H : Nat, GridOk (gridOf p) H ∧ (H : Int) = hoursOf p := by
  have hF := hg.fore.scen
  have hH := hg.fore.hours
  have h1 := hg.sun
  have h2 := hg.needs
  have hpl := possFrom_len p.seen p.scen 0
  refine ⟨(hd0 p.scen).length, ⟨rfl, hH, h1, h2, ⟨?_, ?_⟩, fun l hl => ?_, hg.rate, hg.units⟩, rfl⟩
  · simp only [gridOf, scensOf]
    intro e
    exact hg.poss (List.map_eq_nil_iff.1 e)
  · simp only [gridOf, scens_len, possL]
    omega
  · simp only [gridOf, scensOf] at hl
    obtain ⟨⟨k, l'⟩, hm, rfl⟩ := List.mem_map.1 hl
    obtain ⟨i, hi⟩ := List.getElem?_of_mem hm
    obtain ⟨l, _, hl2, hl3, _⟩ := poss_get p.scen 0 i k l' hi
    dsimp only
    rw [hl3, seenHours_len, hg.fore.len l (List.mem_of_getElem? hl2)]

theorem valid_iff {p : Plant} : validB p = true ↔ far10 p = false ∧ plantE p = 0 := by
  unfold validB
  rw [Bool.and_eq_true, Bool.not_eq_true', decide_eq_true_eq]

theorem valid_far {p : Plant} (h : validB p = true) : p.sun.length ≤ 5 ∧ p.scen.length ≤ 3 ∧ p.rate ≤ 2 := by
  obtain ⟨h1, h2⟩ := valid_iff.1 h
  unfold far10 at h1
  rw [h2] at h1
  simp only [Bool.or_eq_false_iff, Bool.and_eq_false_iff, decide_eq_false_iff_not, decide_true] at h1
  have h3 := h1.2
  simp at h3
  omega

theorem burn_iff {p : Plant} (hg : PlantGood p) (b : List Int) : burnB (gridOf p) b = isBurnB p b := by
  unfold burnB isBurnB gridOf hoursOf
  dsimp only
  rw [hg.sun]

theorem isBurn_iff {p : Plant} {b : List Int} : isBurnB p b = true ↔ (∀ x ∈ b, 0 ≤ x ∧ x ≤ p.rate) ∧ b.length = p.sun.length ∧ sumI b ≤ p.units := by
  unfold isBurnB
  rw [Bool.and_eq_true, Bool.and_eq_true, List.all_eq_true, beq_iff_eq, decide_eq_true_eq]
  refine and_congr ⟨fun h x hx => within_iff.1 (h x hx), fun h x hx => within_iff.2 (h x hx)⟩ (and_congr ⟨fun h => by omega, fun h => by omega⟩ Iff.rfl)

theorem open_burn {p : Plant} (h : plantE p = 0) {b : List Int} : openE p [b] = if isBurnB p b then 0 else 101 := by
  have hg := plant_good h
  rw [← openE_nil] at h
  unfold openE at h ⊢
  split at h
  · rename_i hlk
    rw [if_pos hlk]
    split at h
    · cases h
    · rename_i hb
      rw [if_neg hb]
      simp only [List.any_cons, List.any_nil, Bool.or_false]
      rw [burn_iff hg]
      cases isBurnB p b <;> rfl
  · rename_i hlk; exact absurd h hlk

/-! ### Weathers -/

theorem eqAll_iff : ∀ {l : List Hour} {m : List Sky}, l.length = m.length → (eqAll l m = true ↔ ∀ j < m.length, insideB (skyAt m j) (hourAt l (j : Int)) = true)
  | [], [], _ => by simp [eqAll]
  | h :: l, s :: m, hl => by
    have hl' : l.length = m.length := by simpa using hl
    rw [eqAll, Bool.and_eq_true, eqAll_iff hl']
    constructor
    · rintro ⟨h1, h2⟩ j hj
      cases j with
      | zero => exact h1
      | succ j => exact h2 j (by simpa using hj)
    · intro h1
      exact ⟨h1 0 (by simp), fun j hj => h1 (j + 1) (by simpa using hj)⟩
  | [], _ :: _, h => by simp at h
  | _ :: _, [], h => by simp at h

theorem inTo_iff (l : List Hour) (m : List Sky) : ∀ k, inTo l m k = true ↔ ∀ j < k, insideB (skyAt m j) (hourAt l (j : Int)) = true
  | 0 => by simp [inTo]
  | k + 1 => by
    rw [inTo, Bool.and_eq_true, inTo_iff l m k]
    constructor
    · rintro ⟨h1, h2⟩ j hj
      rcases Nat.lt_succ_iff_lt_or_eq.1 hj with h | rfl
      · exact h1 j h
      · exact h2
    · intro h
      exact ⟨fun j hj => h j (by omega), h k (by omega)⟩

theorem hourAt_set {l : List Hour} {i : Nat} {x : Hour} {j : Nat} (hi : i < l.length) : hourAt (l.set i x) (j : Int) = if i = j then x else hourAt l (j : Int) := by
  unfold hourAt
  rw [Int.toNat_natCast, List.getD_eq_getElem?_getD, List.getD_eq_getElem?_getD, List.getElem?_set]
  by_cases h : i = j
  · subst h; simp [hi]
  · simp [h]

/-- The hours of a scenario, with what was seen. -/
theorem seenHours_at : ∀ {seen : List Sight} {l : List Hour} (j : Nat), (∀ s ∈ seen, 0 ≤ s.hour ∧ s.hour.toNat < l.length) → (seen.map (·.hour)).Nodup →
    (∀ s ∈ seen, s.hour = j → hourAt (seenHours seen l) (j : Int) = pointH s.sky) ∧ ((∀ s ∈ seen, s.hour ≠ j) → hourAt (seenHours seen l) (j : Int) = hourAt l (j : Int))
  | [], l, j, _, _ => ⟨fun s hs => by simp at hs, fun _ => rfl⟩
  | s :: seen, l, j, hr, hn => by
    have hs := hr s (by simp)
    simp only [List.map_cons, List.nodup_cons] at hn
    have ih := seenHours_at (seen := seen) (l := l.set s.hour.toNat (pointH s.sky)) j (fun x hx => by have := hr x (by simp [hx]); simpa using this) hn.2
    have e : seenHours (s :: seen) l = seenHours seen (l.set s.hour.toNat (pointH s.sky)) := rfl
    rw [e]
    constructor
    · intro x hx hj
      rcases List.mem_cons.1 hx with rfl | hx
      · have hno : ∀ y ∈ seen, y.hour ≠ j := fun y hy he => hn.1 (List.mem_map.2 ⟨y, hy, by rw [he, hj]⟩)
        rw [ih.2 hno, hourAt_set hs.2, if_pos (by omega)]
      · exact ih.1 x hx hj
    · intro hno
      have h1 := hno s (by simp)
      rw [ih.2 (fun y hy => hno y (by simp [hy])), hourAt_set hs.2, if_neg (by omega)]

theorem skyB_iff {s t : Sky} : skyB s t = true ↔ s = t := by
  unfold skyB
  rw [Bool.and_eq_true, Bool.and_eq_true, beq_iff_eq, beq_iff_eq, beq_iff_eq]
  cases s; cases t
  simp

theorem inside_point (s : Sky) : insideB s (pointH s) = true := by simp [insideB, pointH, withinB]

/-- What a weather of the document is. -/
theorem we_iff {p : Plant} (hg : PlantGood p) {m : List Sky} : weB p.scen p.seen m = true ↔
    m.length = p.sun.length ∧ (∀ s ∈ p.seen, skyAt m s.hour.toNat = s.sky) ∧ ∃ l ∈ p.scen, agreesB p.seen l = true ∧ ∀ j < m.length, insideB (skyAt m j) (hourAt l (j : Int)) = true := by
  unfold weB seenEq
  rw [Bool.and_eq_true, Bool.and_eq_true, beq_iff_eq, List.all_eq_true, List.any_eq_true]
  have e := hg.sun
  constructor
  · rintro ⟨h1, h2, k, hk, hin⟩
    obtain ⟨i, hi⟩ := List.getElem?_of_mem hk
    obtain ⟨_, l, h3, h4, h5, _⟩ := nums_get hi
    rw [h4] at hin
    exact ⟨by omega, fun s hs => skyB_iff.1 (h2 s hs), l, List.mem_of_getElem? h3, h5, (inTo_iff _ _ _).1 hin⟩
  · rintro ⟨h1, h2, l, hl, ha, hin⟩
    refine ⟨by omega, fun s hs => skyB_iff.2 (h2 s hs), ?_⟩
    obtain ⟨i, hi⟩ := List.getElem?_of_mem hl
    have key : ∀ (F : List (List Hour)) (j i : Nat), F[i]? = some l → (j + i, seenHours p.seen l) ∈ possFrom p.seen F j := by
      intro F
      induction F with
      | nil => intro j i h; simp at h
      | cons x F ih =>
        intro j i h
        rw [possFrom]
        cases i with
        | zero =>
          simp at h
          subst h
          rw [if_pos ha]
          simp
        | succ i =>
          have := ih (j + 1) i (by simpa using h)
          rw [show j + 1 + i = j + (i + 1) by omega] at this
          split
          · exact List.mem_cons_of_mem _ this
          · exact this
    have hm := key p.scen 0 i hi
    rw [Nat.zero_add] at hm
    refine ⟨(i : Int), List.mem_map.2 ⟨_, hm, rfl⟩, ?_⟩
    have : scenAt p.scen (i : Int) = l := by simp [scenAt, hi]
    rw [this]
    exact (inTo_iff _ _ _).2 hin

theorem scens_mem {p : Plant} {l' : List Hour} : l' ∈ scensOf (possL p.scen p.seen) ↔ ∃ l ∈ p.scen, agreesB p.seen l = true ∧ l' = seenHours p.seen l := by
  unfold scensOf possL
  generalize hj : 0 = j
  clear hj
  induction p.scen generalizing j with
  | nil => simp [possFrom]
  | cons x F ih =>
    rw [possFrom]
    split
    · rename_i h
      rw [List.map_cons, List.mem_cons, ih]
      constructor
      · rintro (rfl | ⟨l, h1, h2⟩)
        · exact ⟨x, by simp, h, rfl⟩
        · exact ⟨l, by simp [h1], h2⟩
      · rintro ⟨l, h1, h2, h3⟩
        rcases List.mem_cons.1 h1 with rfl | h1
        · exact Or.inl h3
        · exact Or.inr ⟨l, h1, h2, h3⟩
    · rename_i h
      rw [ih]
      constructor
      · rintro ⟨l, h1, h2⟩
        exact ⟨l, by simp [h1], h2⟩
      · rintro ⟨l, h1, h2, h3⟩
        rcases List.mem_cons.1 h1 with rfl | h1
        · exact absurd h2 h
        · exact ⟨l, h1, h2, h3⟩

theorem sight_range {p : Plant} (hg : PlantGood p) {l : List Hour} (hl : l ∈ p.scen) : ∀ s ∈ p.seen, 0 ≤ s.hour ∧ s.hour.toNat < l.length := by
  intro s hs
  have h1 := (sights_spec hg.sights).1 s hs
  have h2 := hg.fore.len l hl
  omega

/-- A weather of the document is one of the grid's. -/
theorem we_grid {p : Plant} (hg : PlantGood p) {m : List Sky} (h : weB p.scen p.seen m = true) : weatherB (gridOf p) m = true := by
  obtain ⟨h1, h2, l, hl, ha, hin⟩ := (we_iff hg).1 h
  refine List.any_eq_true.2 ⟨seenHours p.seen l, scens_mem.2 ⟨l, hl, ha, rfl⟩, ?_⟩
  have hlen : (seenHours p.seen l).length = m.length := by rw [seenHours_len, hg.fore.len l hl, h1, hg.sun]
  rw [eqAll_iff hlen]
  intro j hj
  have hr := sight_range hg hl
  have hsa := seenHours_at (seen := p.seen) (l := l) j hr (sights_spec hg.sights).2.1
  by_cases hex : ∃ s ∈ p.seen, s.hour = (j : Int)
  · obtain ⟨s, hs, hj2⟩ := hex
    rw [hsa.1 s hs hj2]
    have := h2 s hs
    rw [hj2, Int.toNat_natCast] at this
    rw [this]
    exact inside_point _
  · rw [hsa.2 (fun s hs he => hex ⟨s, hs, he⟩)]
    exact hin j hj

/-! ### Yields and levels, without wrapping -/

def SkyOk (s : Sky) : Prop := (0 ≤ s.wind ∧ s.wind ≤ 200) ∧ (0 ≤ s.rain ∧ s.rain ≤ 100)
def yieldI (p : Plant) (h : Int) (s : Sky) : Int := (getI p.sun h * (100 - s.rain)) / 100 + if withinB s.wind p.start p.stop then p.gain * s.wind else 0

theorem getI_in {l : List Int} {a b : Int} (h : ∀ x ∈ l, a ≤ x ∧ x ≤ b) (ha : a ≤ 0 ∧ 0 ≤ b) (i : Int) : a ≤ getI l i ∧ getI l i ≤ b := by
  unfold getI
  rw [List.getD_eq_getElem?_getD]
  cases hx : l[i.toNat]? with
  | none => exact ha
  | some x => exact h x (List.mem_of_getElem? hx)

theorem yield_eq {p : Plant} (hg : PlantGood p) {s : Sky} (hs : SkyOk s) (h : Int) : yieldW p h s = yieldI p h s ∧ 0 ≤ yieldI p h s ∧ yieldI p h s ≤ 30000 := by
  have h1 := getI_in hg.sunIn (by omega) h
  have hgain := hg.gain
  obtain ⟨⟨w1, w2⟩, r1, r2⟩ := hs
  have m1 : 0 ≤ getI p.sun h * (100 - s.rain) := Int.mul_nonneg h1.1 (by omega)
  have m2 : getI p.sun h * (100 - s.rain) ≤ 10000 * 100 := Int.mul_le_mul h1.2 (by omega) (by omega) (by omega)
  have g1 : 0 ≤ p.gain * s.wind := Int.mul_nonneg hgain.1 w1
  have g2 : p.gain * s.wind ≤ 100 * 200 := Int.mul_le_mul hgain.2 w2 w1 (by omega)
  have d : (getI p.sun h * (100 - s.rain)).tdiv 100 = (getI p.sun h * (100 - s.rain)) / 100 := Int.tdiv_eq_ediv_of_nonneg m1
  have e1 : wr (100 - s.rain) = 100 - s.rain := wr_small (by omega)
  have e2 : wr (getI p.sun h * (100 - s.rain)) = getI p.sun h * (100 - s.rain) := wr_small (by omega)
  have e3 : wr ((getI p.sun h * (100 - s.rain)).tdiv 100) = (getI p.sun h * (100 - s.rain)) / 100 := by rw [d]; exact wr_small (by omega)
  have e4 : wr (p.gain * s.wind) = p.gain * s.wind := wr_small (by omega)
  unfold yieldW yieldI
  rw [e1, e2, e3, e4]
  split
  · refine ⟨wr_small (by omega), by omega, by omega⟩
  · refine ⟨by omega, by omega, by omega⟩

theorem skyOk_of {s : Sky} {h : Hour} (h1 : insideB s h = true) (h2 : hourB h = true) : SkyOk s := by
  unfold insideB at h1
  unfold hourB orderedB at h2
  simp only [Bool.and_eq_true, within_iff, decide_eq_true_eq] at h1 h2
  unfold SkyOk
  omega

theorem we_skies {p : Plant} (hg : PlantGood p) {m : List Sky} (h : weB p.scen p.seen m = true) : ∀ j < m.length, SkyOk (skyAt m j) := by
  intro j hj
  obtain ⟨h1, _, l, hl, _, hin⟩ := (we_iff hg).1 h
  have hll := hg.fore.len l hl
  have hsun := hg.sun
  refine skyOk_of (hin j hj) (hg.fore.hour l hl _ (List.mem_of_getElem? (hourAt_get (i := (j : Int)) ⟨by omega, by omega⟩)))

theorem all_eq {p : Plant} (hg : PlantGood p) {burn : List Int} (hb : isBurnB p burn = true) {m : List Sky} (hm : ∀ j < m.length, SkyOk (skyAt m j)) {lv : Int} {j : Nat} (hj : j < m.length)
    (hlv : -1000000 ≤ lv ∧ lv ≤ 100000) : allOf p burn m lv j = lv + yieldI p j (skyAt m j) + p.gas * getI burn j - getI p.needs j ∧ lv - 20000 ≤ lv + yieldI p j (skyAt m j) + p.gas * getI burn j - getI p.needs j ∧ lv + yieldI p j (skyAt m j) + p.gas * getI burn j - getI p.needs j ≤ 300000 := by
  obtain ⟨y1, y2, y3⟩ := yield_eq hg (hm j hj) (j : Int)
  obtain ⟨b1, _, _⟩ := isBurn_iff.1 hb
  have hgas := hg.gas
  have hrate := hg.rate
  have hb1 := getI_in b1 (by omega) (j : Int)
  have hn1 := getI_in hg.needsIn (by omega) (j : Int)
  have g1 : 0 ≤ p.gas * getI burn j := Int.mul_nonneg hgas.1 hb1.1
  have g2 : p.gas * getI burn j ≤ 10000 * 10 := Int.mul_le_mul hgas.2 (by omega) hb1.1 (by omega)
  unfold allOf
  rw [y1, show wr (p.gas * getI burn j) = p.gas * getI burn j from wr_small (by omega), show wr (lv + yieldI p j (skyAt m j)) = lv + yieldI p j (skyAt m j) from wr_small (by omega),
    show wr (lv + yieldI p j (skyAt m j) + p.gas * getI burn j) = lv + yieldI p j (skyAt m j) + p.gas * getI burn j from wr_small (by omega)]
  exact ⟨wr_small (by omega), by omega, by omega⟩

/-- The level, with no wrapping. -/
theorem lv_range {p : Plant} (hg : PlantGood p) {burn : List Int} (hb : isBurnB p burn = true) {m : List Sky} (hm : ∀ j < m.length, SkyOk (skyAt m j)) (hl : m.length ≤ 48) :
    ∀ k : Nat, k ≤ m.length → -(20000 * (k : Int)) ≤ lvAt p burn m k ∧ lvAt p burn m k ≤ p.capacity
  | 0, _ => by have := hg.charge; rw [lvAt]; omega
  | k + 1, hk => by
    have ih := lv_range hg hb hm hl k (by omega)
    have hc := hg.capacity
    obtain ⟨h1, h2, h3⟩ := all_eq hg hb hm (lv := lvAt p burn m k) (j := k) (by omega) (by omega)
    rw [lvAt, h1]
    omega
end Go.Ab
namespace Go.Ab
open Go.RowKit Go.Proofs
set_option maxHeartbeats 8000000
set_option maxRecDepth 20000
attribute [local irreducible] WalkL Walk

/-- What has come in up to an hour, as the statement sums it. -/
def keptTo (p : Plant) (burn : List Int) (m : List Sky) : Nat → Int
  | 0 => p.charge
  | k + 1 => wr (keptTo p burn m k + wr (wr (yieldW p k (skyAt m k) + wr (getI burn k * p.gas)) - getI p.needs k))

theorem kept_eq {p : Plant} (hg : PlantGood p) {burn : List Int} (hb : isBurnB p burn = true) {m : List Sky} (hm : ∀ j < m.length, SkyOk (skyAt m j)) (hl : m.length ≤ 48) :
    ∀ k : Nat, k ≤ m.length → 0 ≤ lostTo p burn m k ∧ lostTo p burn m k ≤ 1000000 * k ∧ keptTo p burn m k = lvAt p burn m k + lostTo p burn m k
  | 0, _ => by simp [lostTo, keptTo, lvAt]
  | k + 1, hk => by
    obtain ⟨i1, i2, i3⟩ := kept_eq hg hb hm hl k (by omega)
    have hr := lv_range hg hb hm hl k (by omega)
    have hr1 := lv_range hg hb hm hl (k + 1) hk
    have hc := hg.capacity
    have hgas := hg.gas
    have hrate := hg.rate
    obtain ⟨h1, h2, h3⟩ := all_eq hg hb hm (lv := lvAt p burn m k) (j := k) (by omega) (by omega)
    obtain ⟨y1, y2, y3⟩ := yield_eq hg (hm k (by omega)) (k : Int)
    obtain ⟨b1, _, _⟩ := isBurn_iff.1 hb
    have hb1 := getI_in b1 (by omega) (k : Int)
    have hn1 := getI_in hg.needsIn (by omega) (k : Int)
    have e : lvAt p burn m (k + 1) = min (lvAt p burn m k + yieldI p k (skyAt m k) + p.gas * getI burn k - getI p.needs k) p.capacity := by rw [lvAt, h1]
    have g1 : 0 ≤ p.gas * getI burn k := Int.mul_nonneg hgas.1 hb1.1
    have g2 : p.gas * getI burn k ≤ 10000 * 10 := Int.mul_le_mul hgas.2 (by omega) hb1.1 (by omega)
    have el : lostAt p burn m k = lvAt p burn m k + yieldI p k (skyAt m k) + p.gas * getI burn k - getI p.needs k - lvAt p burn m (k + 1) := by
      unfold lostAt
      rw [h1]
      exact wr_small (by omega)
    have el2 : lostTo p burn m (k + 1) = lostTo p burn m k + lostAt p burn m k := by
      rw [lostTo]
      exact wr_small (by omega)
    have ek : keptTo p burn m (k + 1) = keptTo p burn m k + (yieldI p k (skyAt m k) + p.gas * getI burn k - getI p.needs k) := by
      rw [keptTo, Int.mul_comm (getI burn k) p.gas, y1, show wr (p.gas * getI burn k) = p.gas * getI burn k from wr_small (by omega),
        show wr (yieldI p k (skyAt m k) + p.gas * getI burn k) = yieldI p k (skyAt m k) + p.gas * getI burn k from wr_small (by omega),
        show wr (yieldI p k (skyAt m k) + p.gas * getI burn k - getI p.needs k) = yieldI p k (skyAt m k) + p.gas * getI burn k - getI p.needs k from wr_small (by omega)]
      exact wr_small (by omega)
    rw [el2, ek, el, i3]
    omega

theorem levs_get (p : Plant) (burn : List Int) (m : List Sky) {n i : Nat} (h : i < n) : (intRows (levsTo p burn m n))[i]? = some [.i (lvAt p burn m (i + 1))] :=
  intRows_at (by simp [levsTo, List.getElem?_map, List.getElem?_range h])
theorem levs_len (p : Plant) (burn : List Int) (m : List Sky) (n : Nat) : (levsTo p burn m n).length = n := by simp [levsTo]

theorem levels_good {p : Plant} (hz : plantE p = 0) {burn : List Int} (hb : isBurnB p burn = true) {m : List Sky} (hm : weatherB (gridOf p) m = true) :
    levelsP p burn m = (levsTo p burn m m.length, lostTo p burn m m.length, 0) := by
  have e : levelsE p burn m = 0 := by
    unfold levelsE
    rw [open_burn hz, hb, if_pos rfl, if_pos rfl, hm, if_pos rfl]
  unfold levelsP
  rw [if_pos e]

/-- What the statements ask first. -/
theorem asked {p : Plant} (hv : validB p = true) : plantE p = 0 ∧ PlantGood p ∧ p.sun.length ≤ 5 ∧ p.rate ≤ 2 := by
  have h := (valid_iff.1 hv).2
  have h2 := valid_far hv
  exact ⟨h, plant_good h, h2.1, h2.2.2⟩

theorem f9 (p : Plant) (burn : List Int) (m : List Sky) (hs : PlantSmall p) (hbl : burn.length < 2 ^ 30) (hml : m.length < 2 ^ 30) :
    Fn Try.prog 9 [.agg p.cells, .sl (intRows burn), .sl (skyRows m)] (.bool true) := by
  have h14 := f14 p hs
  have h15 := f15
  cases hv : validB p
  case false =>
    rw [hv, Plant.cells] at h14
    refine fn_walk 107 Try.call9 Try.func9 rfl (by decide) fun J => ?_
    simp (maxSteps := 4000000) only [go_sem, St.start, Try.ntmps9, Try.results9, Plant.cells]
    repeat (first | refine walkL_true rfl ?_ | refine walkL_false rfl ?_ | refine walkL_seq ?_ | refine walkL_skip ?_ | refine walkL_block ?_ | (refine walkL_region fun K hK => ?_; simp (maxSteps := 4000000) only [go_sem]; (repeat (first | (refine ⟨_, .lent (hf := h14) (hd := rfl) (hr := rfl), ?_⟩; simp (maxSteps := 4000000) only [go_sem]) | (refine ⟨_, .lent (hf := h15) (hd := rfl) (hr := rfl), ?_⟩; simp (maxSteps := 4000000) only [go_sem]) | (refine ⟨_, .given (hf := h14) (hd := rfl) (ha := rfl), ?_⟩; simp (maxSteps := 4000000) only [go_sem]) | (refine ⟨_, .given (hf := h15) (hd := rfl) (ha := rfl), ?_⟩; simp (maxSteps := 4000000) only [go_sem]))); refine hK _ ?_; clear hK K) | refine walkL_nil ?_ | refine walkL_ret ?_ | refine walkL_exit ?_ | refine blockA_here ?_ | refine blockA_other rfl ?_ | refine blockA_ret ?_ | refine blockA_normal ?_ | refine thenA_ret ?_ | refine thenA_exit ?_ | refine thenA_normal ?_)
    simp (maxSteps := 4000000) only [go_sem]
  case true =>
  obtain ⟨hz, hg, hH, hrt⟩ := asked hv
  have hrate := hg.rate
  rw [hv] at h14
  have h21 := f21 p burn (by omega) hbl
  have h29 := f29 p m hg.fore hg.sights hml
  have h30 := f30 p burn m hs hbl
  cases q1 : decide ((burn.length : Int) > 100)
  case true =>
    rw [Plant.cells] at h14
    refine fn_walk 107 Try.call9 Try.func9 rfl (by decide) fun J => ?_
    simp (maxSteps := 4000000) only [go_sem, St.start, Try.ntmps9, Try.results9, Plant.cells]
    repeat (first | refine walkL_true rfl ?_ | refine walkL_false rfl ?_ | refine walkL_seq ?_ | refine walkL_skip ?_ | refine walkL_block ?_ | (refine walkL_region fun K hK => ?_; simp (maxSteps := 4000000) only [go_sem, q1]; (repeat (first | (refine ⟨_, .lent (hf := h14) (hd := rfl) (hr := rfl), ?_⟩; simp (maxSteps := 4000000) only [go_sem, q1]) | (refine ⟨_, .lent (hf := h15) (hd := rfl) (hr := rfl), ?_⟩; simp (maxSteps := 4000000) only [go_sem, q1]) | (refine ⟨_, .given (hf := h14) (hd := rfl) (ha := rfl), ?_⟩; simp (maxSteps := 4000000) only [go_sem, q1]) | (refine ⟨_, .given (hf := h15) (hd := rfl) (ha := rfl), ?_⟩; simp (maxSteps := 4000000) only [go_sem, q1]))); refine hK _ ?_; clear hK K) | refine walkL_nil ?_ | refine walkL_ret ?_ | refine walkL_exit ?_ | refine blockA_here ?_ | refine blockA_other rfl ?_ | refine blockA_ret ?_ | refine blockA_normal ?_ | refine thenA_ret ?_ | refine thenA_exit ?_ | refine thenA_normal ?_)
    simp (maxSteps := 4000000) only [go_sem]
  case false =>
  cases q2 : isBurnB p burn
  case false =>
    rw [Plant.cells] at h14 h21
    rw [q2] at h21
    refine fn_walk 107 Try.call9 Try.func9 rfl (by decide) fun J => ?_
    simp (maxSteps := 4000000) only [go_sem, St.start, Try.ntmps9, Try.results9, Plant.cells]
    repeat (first | refine walkL_true rfl ?_ | refine walkL_false rfl ?_ | refine walkL_seq ?_ | refine walkL_skip ?_ | refine walkL_block ?_ | (refine walkL_region fun K hK => ?_; simp (maxSteps := 4000000) only [go_sem, q1]; (repeat (first | (refine ⟨_, .lent (hf := h14) (hd := rfl) (hr := rfl), ?_⟩; simp (maxSteps := 4000000) only [go_sem, q1]) | (refine ⟨_, .lent (hf := h21) (hd := rfl) (hr := rfl), ?_⟩; simp (maxSteps := 4000000) only [go_sem, q1]) | (refine ⟨_, .lent (hf := h15) (hd := rfl) (hr := rfl), ?_⟩; simp (maxSteps := 4000000) only [go_sem, q1]) | (refine ⟨_, .given (hf := h14) (hd := rfl) (ha := rfl), ?_⟩; simp (maxSteps := 4000000) only [go_sem, q1]) | (refine ⟨_, .given (hf := h21) (hd := rfl) (ha := rfl), ?_⟩; simp (maxSteps := 4000000) only [go_sem, q1]) | (refine ⟨_, .given (hf := h15) (hd := rfl) (ha := rfl), ?_⟩; simp (maxSteps := 4000000) only [go_sem, q1]))); refine hK _ ?_; clear hK K) | refine walkL_nil ?_ | refine walkL_ret ?_ | refine walkL_exit ?_ | refine blockA_here ?_ | refine blockA_other rfl ?_ | refine blockA_ret ?_ | refine blockA_normal ?_ | refine thenA_ret ?_ | refine thenA_exit ?_ | refine thenA_normal ?_)
    simp (maxSteps := 4000000) only [go_sem]
  case true =>
  rw [q2] at h21
  cases q3 : weB p.scen p.seen m
  case false =>
    rw [Plant.cells] at h14 h21 h29
    rw [q3] at h29
    refine fn_walk 107 Try.call9 Try.func9 rfl (by decide) fun J => ?_
    simp (maxSteps := 4000000) only [go_sem, St.start, Try.ntmps9, Try.results9, Plant.cells]
    repeat (first | refine walkL_true rfl ?_ | refine walkL_false rfl ?_ | refine walkL_seq ?_ | refine walkL_skip ?_ | refine walkL_block ?_ | (refine walkL_region fun K hK => ?_; simp (maxSteps := 4000000) only [go_sem, q1]; (repeat (first | (refine ⟨_, .lent (hf := h14) (hd := rfl) (hr := rfl), ?_⟩; simp (maxSteps := 4000000) only [go_sem, q1]) | (refine ⟨_, .lent (hf := h21) (hd := rfl) (hr := rfl), ?_⟩; simp (maxSteps := 4000000) only [go_sem, q1]) | (refine ⟨_, .lent (hf := h29) (hd := rfl) (hr := rfl), ?_⟩; simp (maxSteps := 4000000) only [go_sem, q1]) | (refine ⟨_, .lent (hf := h15) (hd := rfl) (hr := rfl), ?_⟩; simp (maxSteps := 4000000) only [go_sem, q1]) | (refine ⟨_, .given (hf := h14) (hd := rfl) (ha := rfl), ?_⟩; simp (maxSteps := 4000000) only [go_sem, q1]) | (refine ⟨_, .given (hf := h21) (hd := rfl) (ha := rfl), ?_⟩; simp (maxSteps := 4000000) only [go_sem, q1]) | (refine ⟨_, .given (hf := h29) (hd := rfl) (ha := rfl), ?_⟩; simp (maxSteps := 4000000) only [go_sem, q1]) | (refine ⟨_, .given (hf := h15) (hd := rfl) (ha := rfl), ?_⟩; simp (maxSteps := 4000000) only [go_sem, q1]))); refine hK _ ?_; clear hK K) | refine walkL_nil ?_ | refine walkL_ret ?_ | refine walkL_exit ?_ | refine blockA_here ?_ | refine blockA_other rfl ?_ | refine blockA_ret ?_ | refine blockA_normal ?_ | refine thenA_ret ?_ | refine thenA_exit ?_ | refine thenA_normal ?_)
    simp (maxSteps := 4000000) only [go_sem]
  case true =>
  rw [q3] at h29
  have hw := we_grid hg q3
  have hsk := we_skies hg q3
  have hlen := ((we_iff hg).1 q3).1
  have hbn := (isBurn_iff.1 q2).2.1
  have hnl := hg.needs
  have hsl := hg.sun
  have hpos := hg.fore.hours
  have hcap := hg.capacity
  rw [levels_good hz q2 hw] at h30
  obtain ⟨k1, k2, k3⟩ := kept_eq hg q2 hsk (by omega) m.length (Nat.le_refl _)
  obtain ⟨H, eH⟩ : ∃ H, H = m.length := ⟨_, rfl⟩
  obtain ⟨L, eL⟩ : ∃ L, L = lostTo p burn m m.length := ⟨_, rfl⟩
  rw [← eL] at h30 k1 k2 k3
  have q4 : ((m.length : Int) != m.length) = false := by simp
  have q5 : decide (L < 0) = false := by simp; omega
  rw [Plant.cells] at h14 h21 h29 h30
  refine fn_walk 107 Try.call9 Try.func9 rfl (by decide) fun J => ?_
  simp (maxSteps := 4000000) only [go_sem, St.start, Try.ntmps9, Try.results9, Plant.cells]
  repeat (first | refine walkL_true rfl ?_ | refine walkL_false rfl ?_ | refine walkL_seq ?_ | refine walkL_skip ?_ | refine walkL_block ?_ | (refine walkL_region fun K hK => ?_; simp (maxSteps := 4000000) only [go_sem, q1, q4, q5, levs_len]; (repeat (first | (refine ⟨_, .lent (hf := h14) (hd := rfl) (hr := rfl), ?_⟩; simp (maxSteps := 4000000) only [go_sem, q1, q4, q5, levs_len]) | (refine ⟨_, .lent (hf := h21) (hd := rfl) (hr := rfl), ?_⟩; simp (maxSteps := 4000000) only [go_sem, q1, q4, q5, levs_len]) | (refine ⟨_, .lent (hf := h29) (hd := rfl) (hr := rfl), ?_⟩; simp (maxSteps := 4000000) only [go_sem, q1, q4, q5, levs_len]) | (refine ⟨_, .lent (hf := h15) (hd := rfl) (hr := rfl), ?_⟩; simp (maxSteps := 4000000) only [go_sem, q1, q4, q5, levs_len]) | (refine ⟨_, .lent (hf := h30) (hd := rfl) (hr := rfl), ?_⟩; simp (maxSteps := 4000000) only [go_sem, q1, q4, q5, levs_len]) | (refine ⟨_, .given (hf := h14) (hd := rfl) (ha := rfl), ?_⟩; simp (maxSteps := 4000000) only [go_sem, q1, q4, q5, levs_len]) | (refine ⟨_, .given (hf := h21) (hd := rfl) (ha := rfl), ?_⟩; simp (maxSteps := 4000000) only [go_sem, q1, q4, q5, levs_len]) | (refine ⟨_, .given (hf := h29) (hd := rfl) (ha := rfl), ?_⟩; simp (maxSteps := 4000000) only [go_sem, q1, q4, q5, levs_len]) | (refine ⟨_, .given (hf := h15) (hd := rfl) (ha := rfl), ?_⟩; simp (maxSteps := 4000000) only [go_sem, q1, q4, q5, levs_len]) | (refine ⟨_, .given (hf := h30) (hd := rfl) (ha := rfl), ?_⟩; simp (maxSteps := 4000000) only [go_sem, q1, q4, q5, levs_len]))); refine hK _ ?_; clear hK K) | refine walkL_nil ?_ | refine walkL_ret ?_ | refine walkL_exit ?_ | refine blockA_here ?_ | refine blockA_other rfl ?_ | refine blockA_ret ?_ | refine blockA_normal ?_ | refine thenA_ret ?_ | refine thenA_exit ?_ | refine thenA_normal ?_)
  refine walkL_loopS (fun (i : Nat) => [(11, .d (.i i)), (10, .d (.i (keptTo p burn m i)))]) (fun _ => []) (fun i => i ≤ m.length) (fun i => m.length - i) 0 ?_ (Nat.zero_le _) ?_
  · simp (maxSteps := 4000000) only [go_sem]
    refine weak_of [] ?_ ?_ rfl rfl <;> simp [lessT, lessM, lessB, AV.less]
    all_goals first | done | rfl
  · intro i hi
    simp (maxSteps := 4000000) only [go_sem, levs_len]
    repeat (first | refine walkL_seq ?_ | refine walkL_skip ?_ | refine walkL_block ?_ | (refine walkL_region fun K hK => ?_; simp (maxSteps := 4000000) only [go_sem, levs_len]; refine hK _ ?_; clear hK K) | refine walkL_nil ?_ | refine walkL_ret ?_ | refine walkL_exit ?_ | refine blockA_here ?_ | refine blockA_other rfl ?_ | refine blockA_ret ?_ | refine blockA_normal ?_ | refine thenA_ret ?_ | refine thenA_exit ?_ | refine thenA_normal ?_)
    refine walkL_cond rfl (fun hb => ?_) (fun hb => ?_)
    · have hlt : i < m.length := by simpa using hb
      have hw : IntKind.i64.wrap ((i : Int) + 1) = ((i + 1 : Nat) : Int) := by rw [wr_small (by omega)]; simp
      have g1 := levs_get p burn m hlt
      have g2 := skyRows_at (skyAt_get hlt)
      have g3 := intRows_get (l := burn) (i := (i : Int)) (by omega) (by omega)
      have g4 := intRows_get (l := p.needs) (i := (i : Int)) (by omega) (by omega)
      rw [Int.toNat_natCast] at g3 g4
      have h31 := f31 p i (skyAt m i) ⟨by omega, by omega⟩
      rw [Plant.cells, Sky.row] at h31
      have hr1 := lv_range hg q2 hsk (by omega) (i + 1) (by omega)
      have q6 : decide (lvAt p burn m (i + 1) > p.capacity) = false := by simp; omega
      have e : wr (keptTo p burn m i + wr (wr (yieldW p i (skyAt m i) + wr (getI burn i * p.gas)) - getI p.needs i)) = keptTo p burn m (i + 1) := rfl
      unfold wr at e
      repeat (first | refine walkL_true rfl ?_ | refine walkL_false rfl ?_ | refine walkL_seq ?_ | refine walkL_skip ?_ | refine walkL_block ?_ | (refine walkL_region fun K hK => ?_; simp (maxSteps := 4000000) only [go_sem, g1, g2, g3, g4, Sky.row, q6, hw, e]; (repeat (first | (refine ⟨_, .lent (hf := h31) (hd := rfl) (hr := rfl), ?_⟩; simp (maxSteps := 4000000) only [go_sem, g1, g2, g3, g4, Sky.row, q6, hw, e]) | (refine ⟨_, .given (hf := h31) (hd := rfl) (ha := rfl), ?_⟩; simp (maxSteps := 4000000) only [go_sem, g1, g2, g3, g4, Sky.row, q6, hw, e]))); refine hK _ ?_; clear hK K) | (refine walkL_drawn (by kernel_rfl) (by kernel_rfl) fun K hK => ?_; simp (maxSteps := 4000000) only [go_sem, g1, g2, g3, g4, Sky.row, q6, hw, e]; (repeat (first | (refine ⟨_, .fn (hf := h31) (hd := rfl) (hr := .inl rfl), ?_⟩; simp (maxSteps := 4000000) only [go_sem, g1, g2, g3, g4, Sky.row, q6, hw, e]))); refine ⟨by kernel_rfl, hK _ ?_⟩; clear hK K) | refine walkL_nil ?_ | refine walkL_ret ?_ | refine walkL_exit ?_ | refine blockA_here ?_ | refine blockA_other rfl ?_ | refine blockA_ret ?_ | refine blockA_normal ?_ | refine thenA_ret ?_ | refine thenA_exit ?_ | refine thenA_normal ?_)
      refine ⟨rfl, i + 1, ?_, hlt, by omega⟩
      refine weak_of [] ?_ ?_ rfl rfl <;> simp [lessT, lessM, lessB, AV.less]
    · have he : i = m.length := by (have : ¬ i < m.length := by simpa using hb); omega
      subst he
      have hm1 : m.length ≠ 0 := by omega
      obtain ⟨n, en⟩ : ∃ n, m.length = n + 1 := ⟨m.length - 1, by omega⟩
      have g1 := levs_get p burn m (n := m.length) (i := n) (by omega)
      have w1 : IntKind.i64.wrap ((m.length : Int) - 1) = (n : Int) := by rw [wr_small (by omega)]; omega
      have hr1 := lv_range hg q2 hsk (by omega) m.length (Nat.le_refl _)
      rw [← en] at g1
      have w2 : IntKind.i64.wrap (lvAt p burn m m.length + L) = keptTo p burn m m.length := by rw [wr_small (by omega), k3]
      repeat (first | refine walkL_true rfl ?_ | refine walkL_false rfl ?_ | refine walkL_seq ?_ | refine walkL_skip ?_ | refine walkL_block ?_ | (refine walkL_region fun K hK => ?_; simp (maxSteps := 4000000) only [go_sem, levs_len, w1, g1, w2]; (repeat (first | (refine ⟨_, .lent (hf := h15) (hd := rfl) (hr := rfl), ?_⟩; simp (maxSteps := 4000000) only [go_sem, levs_len, w1, g1, w2]) | (refine ⟨_, .given (hf := h15) (hd := rfl) (ha := rfl), ?_⟩; simp (maxSteps := 4000000) only [go_sem, levs_len, w1, g1, w2]))); refine hK _ ?_; clear hK K) | refine walkL_nil ?_ | refine walkL_ret ?_ | refine walkL_exit ?_ | refine blockA_here ?_ | refine blockA_other rfl ?_ | refine blockA_ret ?_ | refine blockA_normal ?_ | refine thenA_ret ?_ | refine thenA_exit ?_ | refine thenA_normal ?_)
      simp (maxSteps := 4000000) only [go_sem]
end Go.Ab
namespace Go.Ab
open Go.RowKit Go.Proofs
set_option maxHeartbeats 4000000
set_option maxRecDepth 20000

/-! ### Plain laws: the worst sky, levels, the plan -/

/-- The level after some hours, with no more than a capacity. -/
def levI (c cap : Int) (net : Nat → Int) : Nat → Int
  | 0 => c
  | k + 1 => min (levI c cap net k + net k) cap

theorem levI_mono {c c' cap : Int} {net net' : Nat → Int} (h : c ≤ c') : ∀ k, (∀ j < k, net j ≤ net' j) → levI c cap net k ≤ levI c' cap net' k
  | 0, _ => h
  | k + 1, hn => by
    have := levI_mono (cap := cap) h k (fun j hj => hn j (by omega))
    have := hn k (by omega)
    rw [levI, levI]
    omega

theorem levI_congr {c cap : Int} {net net' : Nat → Int} : ∀ k, (∀ j < k, net j = net' j) → levI c cap net k = levI c cap net' k
  | 0, _ => rfl
  | k + 1, hn => by rw [levI, levI, levI_congr k (fun j hj => hn j (by omega)), hn k (by omega)]

/-- The sum of the first numbers. -/
def pre (b : Nat → Int) : Nat → Int
  | 0 => 0
  | k + 1 => pre b k + b k

/-- To burn later is no worse. -/
theorem levI_late {c cap gas : Int} {rest x y : Nat → Int} (hg : 0 ≤ gas) : ∀ k, (∀ j ≤ k, pre y j ≤ pre x j) →
    levI c cap (fun j => rest j + gas * x j) k ≤ levI c cap (fun j => rest j + gas * y j) k + gas * (pre x k - pre y k)
  | 0, _ => by simp [levI, pre]
  | k + 1, h => by
    have ih := levI_late (c := c) (cap := cap) (rest := rest) hg k (fun j hj => h j (by omega))
    have h1 := h (k + 1) (Nat.le_refl _)
    have h2 : 0 ≤ gas * (pre x (k + 1) - pre y (k + 1)) := Int.mul_nonneg hg (by omega)
    have h3 : gas * (pre x (k + 1) - pre y (k + 1)) = gas * (pre x k - pre y k) + gas * x k - gas * y k := by
      rw [pre, pre, show pre x k + x k - (pre y k + y k) = pre x k - pre y k + x k - y k by omega, Int.mul_sub, Int.mul_add]
    rw [levI, levI]
    omega

theorem lv_eq {p : Plant} (hg : PlantGood p) {burn : List Int} (hb : isBurnB p burn = true) {m : List Sky} (hm : ∀ j < m.length, SkyOk (skyAt m j)) (hl : m.length ≤ 48) :
    ∀ k : Nat, k ≤ m.length → lvAt p burn m k = levI p.charge p.capacity (fun j => yieldI p j (skyAt m j) - getI p.needs j + p.gas * getI burn j) k
  | 0, _ => rfl
  | k + 1, hk => by
    have ih := lv_eq hg hb hm hl k (by omega)
    have hr := lv_range hg hb hm hl k (by omega)
    have hc := hg.capacity
    obtain ⟨h1, _, _⟩ := all_eq hg hb hm (lv := lvAt p burn m k) (j := k) (by omega) (by omega)
    rw [lvAt, h1, levI, ← ih]
    omega

/-! ### The worst sky -/

theorem hourB_iff {h : Hour} : hourB h = true ↔ (0 ≤ h.wind.lo ∧ h.wind.lo ≤ h.wind.hi ∧ h.wind.hi ≤ 200) ∧ (0 ≤ h.rain.lo ∧ h.rain.lo ≤ h.rain.hi ∧ h.rain.hi ≤ 100) ∧ (-50 ≤ h.temp.lo ∧ h.temp.lo ≤ h.temp.hi ∧ h.temp.hi ≤ 50) := by
  unfold hourB orderedB
  simp only [Bool.and_eq_true, decide_eq_true_eq]

theorem inside_iff {s : Sky} {h : Hour} : insideB s h = true ↔ (h.wind.lo ≤ s.wind ∧ s.wind ≤ h.wind.hi) ∧ (h.rain.lo ≤ s.rain ∧ s.rain ≤ h.rain.hi) ∧ (h.temp.lo ≤ s.temp ∧ s.temp ≤ h.temp.hi) := by
  unfold insideB
  simp only [Bool.and_eq_true, within_iff]

theorem worst_in {p : Plant} {h : Hour} (hh : hourB h = true) : insideB (worstW p h) h = true := by
  have h1 := hourB_iff.1 hh
  rw [inside_iff]
  unfold worstW
  dsimp only
  split <;> omega

theorem worst_least {p : Plant} (hg : PlantGood p) {h : Hour} (hh : hourB h = true) {s : Sky} (hs : insideB s h = true) (j : Int) : yieldI p j (worstW p h) ≤ yieldI p j s := by
  have h1 := hourB_iff.1 hh
  have h2 := inside_iff.1 hs
  have hgain := hg.gain
  have hst := hg.start
  have hx := getI_in hg.sunIn (by omega) j
  have e1 : getI p.sun j * (100 - h.rain.hi) ≤ getI p.sun j * (100 - s.rain) := Int.mul_le_mul_of_nonneg_left (by omega) hx.1
  have e2 : getI p.sun j * (100 - h.rain.hi) / 100 ≤ getI p.sun j * (100 - s.rain) / 100 := Int.ediv_le_ediv (by decide) e1
  have g0 : 0 ≤ p.gain * s.wind := Int.mul_nonneg hgain.1 (by omega)
  have g1 : p.gain * h.wind.lo ≤ p.gain * s.wind := Int.mul_le_mul_of_nonneg_left (by omega) hgain.1
  have hwr : (worstW p h).rain = h.rain.hi := rfl
  have hww : (worstW p h).wind = if decide (h.wind.lo ≥ p.start) && decide (h.wind.hi > p.stop) then h.wind.hi else h.wind.lo := rfl
  unfold yieldI
  rw [hwr]
  generalize (worstW p h).wind = w at hww ⊢
  have key : (if withinB w p.start p.stop then p.gain * w else 0) ≤ if withinB s.wind p.start p.stop then p.gain * s.wind else 0 := by
    have hnn : 0 ≤ if withinB s.wind p.start p.stop then p.gain * s.wind else 0 := by split <;> omega
    by_cases q2 : withinB w p.start p.stop = true
    · have q3 := within_iff.1 q2
      rw [if_pos q2]
      by_cases q1 : (decide (h.wind.lo ≥ p.start) && decide (h.wind.hi > p.stop)) = true
      · rw [if_pos q1] at hww
        have q1 : h.wind.lo ≥ p.start ∧ h.wind.hi > p.stop := by simpa using q1
        omega
      · rw [if_neg q1] at hww
        subst hww
        have q4 : ¬ (h.wind.lo ≥ p.start ∧ h.wind.hi > p.stop) := by simpa using q1
        rw [if_pos (within_iff.2 (by omega))]
        exact g1
    · rw [if_neg q2]
      exact hnn
  omega

theorem least_at {p : Plant} {l : List Hour} {j : Nat} (h : j < l.length) : skyAt (leastW p l) j = worstW p (hourAt l (j : Int)) := by
  unfold skyAt leastW hourAt
  rw [List.getD_eq_getElem?_getD, List.getElem?_map, List.getD_eq_getElem?_getD, Int.toNat_natCast, List.getElem?_eq_getElem h]
  rfl

theorem least_len (p : Plant) (l : List Hour) : (leastW p l).length = l.length := by simp [leastW]

/-- What the scenarios of the grid are. -/
theorem scen_ok {p : Plant} (hg : PlantGood p) {l : List Hour} (hl : l ∈ (gridOf p).scen) : l.length = p.sun.length ∧ ∀ j < l.length, hourB (hourAt l (j : Int)) = true := by
  obtain ⟨l0, h0, ha, rfl⟩ := scens_mem.1 hl
  have hlen := hg.fore.len l0 h0
  have hsun := hg.sun
  refine ⟨by rw [seenHours_len, hlen, hsun], fun j hj => ?_⟩
  rw [seenHours_len] at hj
  have hsp := sights_spec hg.sights
  have hsa := seenHours_at (seen := p.seen) (l := l0) j (sight_range hg h0) hsp.2.1
  by_cases hex : ∃ s ∈ p.seen, s.hour = (j : Int)
  · obtain ⟨s, hs, hj2⟩ := hex
    rw [hsa.1 s hs hj2]
    exact (hsp.1 s hs).2.2
  · rw [hsa.2 (fun s hs he => hex ⟨s, hs, he⟩)]
    exact hg.fore.hour l0 h0 _ (List.mem_of_getElem? (hourAt_get (i := (j : Int)) ⟨by omega, by omega⟩))

theorem least_skies {p : Plant} (hg : PlantGood p) {l : List Hour} (hl : l ∈ (gridOf p).scen) : ∀ j < (leastW p l).length, SkyOk (skyAt (leastW p l) j) := by
  intro j hj
  rw [least_len] at hj
  obtain ⟨h1, h2⟩ := scen_ok hg hl
  rw [least_at hj]
  exact skyOk_of (worst_in (h2 j hj)) (h2 j hj)

theorem grid_lens {p : Plant} (hg : PlantGood p) : (gridOf p).hours = p.sun.length ∧ 1 ≤ p.sun.length ∧ p.sun.length ≤ 48 := by
  have h1 := hg.fore.hours
  have h2 := hg.sun
  refine ⟨?_, by omega, by omega⟩
  show ((hd0 p.scen).length : Int) = _
  omega

/-! ### Through how many hours it lasts -/

theorem count_spec (q : Nat → Bool) : ∀ (k i : Nat), (∀ j, i ≤ j → j < countTo q k i → q j = true) ∧ (countTo q k i < i + k → q (countTo q k i) = false)
  | 0, i => by simp [countTo]; omega
  | k + 1, i => by
    rw [countTo]
    cases hq : q i with
    | false => exact ⟨fun j h1 h2 => by simp at h2; omega, fun _ => by simpa using hq⟩
    | true =>
      obtain ⟨h1, h2⟩ := count_spec q k (i + 1)
      rw [if_pos rfl]
      refine ⟨fun j hj1 hj2 => ?_, fun h => h2 (by omega)⟩
      rcases Nat.lt_or_ge i j with h | h
      · exact h1 j (by omega) hj2
      · rw [show j = i by omega]; exact hq

theorem lasts_spec (p : Plant) (burn : List Int) (m : List Sky) : lastsW p burn m ≤ m.length ∧ (∀ j < lastsW p burn m, p.reserve ≤ lvAt p burn m (j + 1)) ∧ (lastsW p burn m < m.length → lvAt p burn m (lastsW p burn m + 1) < p.reserve) := by
  have h1 := countTo_le (fun j => !decide (lvAt p burn m (j + 1) < p.reserve)) m.length 0
  obtain ⟨h2, h3⟩ := count_spec (fun j => !decide (lvAt p burn m (j + 1) < p.reserve)) m.length 0
  refine ⟨?_, fun j hj => ?_, fun h => ?_⟩
  · have := h1.2
    unfold lastsW
    omega
  · have := h2 j (Nat.zero_le _) hj
    simp at this
    exact this
  · have := h3 (by unfold lastsW at h; omega)
    unfold lastsW
    simpa using this

theorem lasts_ge {p : Plant} {burn : List Int} {m : List Sky} {k : Nat} (hk : k ≤ m.length) (h : ∀ j < k, p.reserve ≤ lvAt p burn m (j + 1)) : k ≤ lastsW p burn m := by
  obtain ⟨h1, _, h3⟩ := lasts_spec p burn m
  by_cases hlt : lastsW p burn m < k
  · have := h _ hlt
    have := h3 (by omega)
    omega
  · omega

theorem hard_le (g : Grid) (burn : List Int) : ∀ l ∈ g.scen, (hardF g burn).2 ≤ lastsW g.p burn (leastW g.p l) := by
  have key : ∀ (ls : List (List Hour)) (a : List Sky × Int), (ls.foldl (hardStep g.p burn) a).2 ≤ a.2 ∧ ∀ l ∈ ls, (ls.foldl (hardStep g.p burn) a).2 ≤ lastsW g.p burn (leastW g.p l) := by
    intro ls
    induction ls with
    | nil => intro a; exact ⟨Int.le_refl _, fun l h => by simp at h⟩
    | cons x xs ih =>
      intro a
      rw [List.foldl_cons]
      obtain ⟨h1, h2⟩ := ih (hardStep g.p burn a x)
      have h3 : (hardStep g.p burn a x).2 ≤ a.2 ∧ (hardStep g.p burn a x).2 ≤ lastsW g.p burn (leastW g.p x) := by
        unfold hardStep
        split
        · exact ⟨by dsimp only; omega, Int.le_refl _⟩
        · exact ⟨Int.le_refl _, by omega⟩
      refine ⟨by omega, fun l hl => ?_⟩
      rcases List.mem_cons.1 hl with rfl | hl
      · omega
      · exact h2 l hl
  exact (key g.scen _).2

/-- What it is that a burn lasts through all hours. -/
def LastsAll (p : Plant) (burn : List Int) : Prop := ∀ l ∈ (gridOf p).scen, ∀ j < p.sun.length, p.reserve ≤ lvAt p burn (leastW p l) (j + 1)

theorem hard_all {p : Plant} (hg : PlantGood p) {burn : List Int} : (hardF (gridOf p) burn).2 = (gridOf p).hours ↔ LastsAll p burn := by
  obtain ⟨e, _, _⟩ := grid_lens hg
  obtain ⟨H, hgo, hH⟩ := grid_good hg
  have hHe : (gridOf p).hours = (H : Int) := hgo.hours
  constructor
  · intro h l hl j hj
    have h1 := hard_le (gridOf p) burn l hl
    have h2 := (lasts_spec p burn (leastW p l)).2.1
    refine h2 j ?_
    have : (gridOf p).p = p := rfl
    rw [this] at h1
    omega
  · intro h
    obtain ⟨h1, h2, l, hl, _, h4⟩ := hardF_range hgo burn
    have hpe : (gridOf p).p = p := rfl
    rw [hpe] at h4
    have h5 := lasts_ge (p := p) (burn := burn) (m := leastW p l) (k := p.sun.length) (by rw [least_len]; have := (scen_ok hg hl).1; omega) (h l hl)
    omega

/-- In each weather the level is no less than in the worst one of its scenario. -/
theorem lv_worst {p : Plant} (hg : PlantGood p) {burn : List Int} (hb : isBurnB p burn = true) {m : List Sky} (hw : weB p.scen p.seen m = true) :
    ∃ l ∈ (gridOf p).scen, ∀ k ≤ p.sun.length, lvAt p burn (leastW p l) k ≤ lvAt p burn m k := by
  have hsk := we_skies hg hw
  have hml := ((we_iff hg).1 hw).1
  obtain ⟨_, _, h48⟩ := grid_lens hg
  obtain ⟨l, hl, he⟩ := List.any_eq_true.1 (we_grid hg hw)
  obtain ⟨hll, hlh⟩ := scen_ok hg hl
  have hin := (eqAll_iff (by omega)).1 he
  refine ⟨l, hl, fun k hk => ?_⟩
  rw [lv_eq hg hb hsk (by omega) k (by omega), lv_eq hg hb (least_skies hg hl) (by rw [least_len]; omega) k (by rw [least_len]; omega)]
  refine levI_mono (Int.le_refl _) k fun j hj => ?_
  rw [least_at (by omega)]
  have := worst_least hg (hlh j (by omega)) (hin j (by omega)) (j : Int)
  omega

/-! ### The plan: it lasts, and none burns less up to any hour -/

def preB (b : List Int) (k : Nat) : Int := pre (fun j => getI b j) k

theorem pre_take (b : List Int) : ∀ k ≤ b.length, preB b k = sumI (b.take k)
  | 0, _ => by simp [preB, pre, sumI]
  | k + 1, h => by
    have hx : b[k]? = some (getI b k) := by
      unfold getI
      rw [Int.toNat_natCast, List.getD_eq_getElem?_getD, List.getElem?_eq_getElem (by omega)]
      rfl
    rw [sumI_take_succ hx, ← pre_take b k (by omega)]
    rfl
theorem pre_all (b : List Int) : preB b b.length = sumI b := by rw [pre_take b _ (Nat.le_refl _), List.take_length]

theorem getI_set {b : List Int} {k j : Nat} (hk : k < b.length) (x : Int) : getI (b.set k x) (j : Int) = if k = j then x else getI b (j : Int) := by
  unfold getI
  rw [Int.toNat_natCast, List.getD_eq_getElem?_getD, List.getD_eq_getElem?_getD, List.getElem?_set]
  by_cases h : k = j
  · subst h; simp [hk]
  · simp [h]

theorem pre_set {b : List Int} {k : Nat} (hk : k < b.length) : ∀ j, preB (b.set k (getI b (k : Int) + 1)) j = preB b j + if k < j then 1 else 0
  | 0 => by simp [preB, pre]
  | j + 1 => by
    have ih := pre_set hk j
    unfold preB at ih ⊢
    rw [pre, pre, ih, getI_set hk]
    by_cases h : k = j
    · subst h; simp; omega
    · rw [if_neg h]
      by_cases h2 : k < j
      · rw [if_pos h2, if_pos (by omega)]; omega
      · rw [if_neg h2, if_neg (by omega)]; omega

/-- What the plan's steps keep. -/
structure Step (p : Plant) (b : List Int) (u : Int) : Prop where
  len : b.length = p.sun.length
  rng : ∀ x ∈ b, 0 ≤ x ∧ x ≤ p.rate
  sum : sumI b = u
  top : u ≤ p.units
  /-- Nothing is burnt behind the hour through which it does not last. -/
  zero : ∀ j : Nat, getI b (j : Int) ≠ 0 → (j : Int) ≤ (hardF (gridOf p) b).2
  /-- No burn that lasts has burnt less up to an hour. -/
  late : ∀ c, isBurnB p c = true → LastsAll p c → ∀ j ≤ p.sun.length, preB b j ≤ preB c j

theorem Step.isBurn {p : Plant} {b : List Int} {u : Int} (h : Step p b u) : isBurnB p b = true :=
  isBurn_iff.2 ⟨h.rng, h.len, by have := h.sum; have := h.top; omega⟩

theorem down_spec (r : Int) (b : List Int) : ∀ k, (∀ j : Nat, (downF r b k) < (j : Int) → j < k → getI b (j : Int) = r)
  | 0 => fun j _ h => by omega
  | k + 1 => by
    intro j h1 h2
    rw [downF] at h1
    split at h1
    · rename_i he
      rcases Nat.lt_succ_iff_lt_or_eq.1 h2 with h | rfl
      · exact down_spec r b k j h1 h
      · exact he
    · omega

theorem lv_burn_mono {p : Plant} (hg : PlantGood p) {b c : List Int} (hb : isBurnB p b = true) (hc : isBurnB p c = true) (h : ∀ j : Nat, getI b (j : Int) ≤ getI c (j : Int)) {l : List Hour} (hl : l ∈ (gridOf p).scen) :
    ∀ k ≤ p.sun.length, lvAt p b (leastW p l) k ≤ lvAt p c (leastW p l) k := by
  intro k hk
  obtain ⟨_, _, h48⟩ := grid_lens hg
  obtain ⟨hll, hlh⟩ := scen_ok hg hl
  have hsk := least_skies hg hl
  have hlen := least_len p l
  rw [lv_eq hg hb hsk (by omega) k (by omega), lv_eq hg hc hsk (by omega) k (by omega)]
  refine levI_mono (Int.le_refl _) k fun j hj => ?_
  have := Int.mul_le_mul_of_nonneg_left (h j) hg.gas.1
  omega

theorem hard_mono {p : Plant} (hg : PlantGood p) {b c : List Int} (hb : isBurnB p b = true) (hc : isBurnB p c = true) (h : ∀ j : Nat, getI b (j : Int) ≤ getI c (j : Int)) :
    (hardF (gridOf p) b).2 ≤ (hardF (gridOf p) c).2 := by
  obtain ⟨H, hgo, hH⟩ := grid_good hg
  have hpe : (gridOf p).p = p := rfl
  obtain ⟨_, h2, l, hl, _, h4⟩ := hardF_range hgo c
  rw [hpe] at h4
  have h1 := hard_le (gridOf p) b l hl
  rw [hpe] at h1
  obtain ⟨s1, s2, _⟩ := lasts_spec p b (leastW p l)
  have hll := (scen_ok hg hl).1
  have hlen := least_len p l
  have : lastsW p b (leastW p l) ≤ lastsW p c (leastW p l) := lasts_ge (by omega) fun j hj => by
    have := s2 j hj
    have := lv_burn_mono hg hb hc h hl (j + 1) (by omega)
    omega
  omega

/-- A burn that lasts has burnt more than one that does not, up to the hour that this one does not last through. -/
theorem late_more {p : Plant} (hg : PlantGood p) {b c : List Int} (hb : isBurnB p b = true) (hc : isBurnB p c = true) (hcl : LastsAll p c) {n : Nat} (hn : (hardF (gridOf p) b).2 = n) (hnH : n < p.sun.length)
    (hle : ∀ j ≤ p.sun.length, preB b j ≤ preB c j) : preB b (n + 1) < preB c (n + 1) := by
  obtain ⟨H, hgo, hH⟩ := grid_good hg
  have hpe : (gridOf p).p = p := rfl
  obtain ⟨_, h2, l, hl, _, h4⟩ := hardF_range hgo b
  rw [hpe] at h4
  obtain ⟨_, _, h48⟩ := grid_lens hg
  obtain ⟨hll, hlh⟩ := scen_ok hg hl
  have hsk := least_skies hg hl
  have hlen := least_len p l
  have hlast : lastsW p b (leastW p l) = n := by omega
  have s3 := (lasts_spec p b (leastW p l)).2.2 (by omega)
  rw [hlast] at s3
  have hcr := hcl l hl n hnH
  rw [lv_eq hg hb hsk (by omega) (n + 1) (by omega)] at s3
  rw [lv_eq hg hc hsk (by omega) (n + 1) (by omega)] at hcr
  have key := levI_late (c := p.charge) (cap := p.capacity) (gas := p.gas) (rest := fun j => yieldI p j (skyAt (leastW p l) j) - getI p.needs j) (x := fun j => getI c j) (y := fun j => getI b j) hg.gas.1 (n + 1) (fun j hj => hle j (by omega))
  have hlen1 := hle (n + 1) (by omega)
  unfold preB at hlen1 ⊢
  by_cases he : pre (fun j => getI b j) (n + 1) = pre (fun j => getI c j) (n + 1)
  · rw [he, Int.sub_self, Int.mul_zero] at key
    omega
  · omega

theorem pre_diff {r : Int} {b : Nat → Int} (h : ∀ j, b j ≤ r) : ∀ (d k : Nat), pre b (k + d) ≤ pre b k + d * r
  | 0, k => by simp
  | d + 1, k => by
    have := pre_diff h d k
    rw [show k + (d + 1) = (k + d) + 1 by omega, pre]
    have := h (k + d)
    rw [show ((d + 1 : Nat) : Int) * r = (d : Int) * r + r by rw [Int.natCast_add, Int.add_mul]; simp]
    omega
theorem pre_same {r : Int} {b : Nat → Int} : ∀ (d k : Nat), (∀ j, k ≤ j → j < k + d → b j = r) → pre b (k + d) = pre b k + d * r
  | 0, k, _ => by simp
  | d + 1, k, h => by
    have := pre_same d k (fun j h1 h2 => h j h1 (by omega))
    rw [show k + (d + 1) = (k + d) + 1 by omega, pre, h (k + d) (by omega) (by omega), this]
    rw [show ((d + 1 : Nat) : Int) * r = (d : Int) * r + r by rw [Int.natCast_add, Int.add_mul]; simp]
    omega

theorem pre_up {b : Nat → Int} (h : ∀ j, 0 ≤ b j) (k : Nat) : ∀ d : Nat, pre b k ≤ pre b (k + d)
  | 0 => Int.le_refl _
  | d + 1 => by
    have := pre_up h k d
    have := h (k + d)
    have e : pre b (k + (d + 1)) = pre b (k + d) + b (k + d) := rfl
    omega

theorem step_next {p : Plant} (hg : PlantGood p) {b : List Int} {u : Int} (h : Step p b u) {n : Nat} (hn : (hardF (gridOf p) b).2 = n) (hnH : n < p.sun.length) {k : Nat} (hk : downF p.rate b (n + 1) = k) (hu : u < p.units) :
    Step p (b.set k (getI b (k : Int) + 1)) (u + 1) := by
  obtain ⟨d1, d2, d3⟩ := downF_range p.rate b (n + 1)
  have d4 := down_spec p.rate b (n + 1)
  rw [hk] at d1 d2 d3 d4
  have d3 := d3 (by omega)
  have hkl : k < b.length := by rw [h.len]; omega
  have hbk := getI_in h.rng (by have := hg.rate; omega) (k : Int)
  have hlen : (b.set k (getI b (k : Int) + 1)).length = p.sun.length := by rw [List.length_set, h.len]
  have hrng : ∀ x ∈ b.set k (getI b (k : Int) + 1), 0 ≤ x ∧ x ≤ p.rate := fun x hx => by
    rcases List.mem_or_eq_of_mem_set hx with hx | rfl
    · exact h.rng x hx
    · omega
  have hsum : sumI (b.set k (getI b (k : Int) + 1)) = u + 1 := by
    rw [← pre_all, List.length_set, pre_set hkl, if_pos hkl, pre_all, h.sum]
  have hib : isBurnB p (b.set k (getI b (k : Int) + 1)) = true := isBurn_iff.2 ⟨hrng, hlen, by omega⟩
  have hmono := hard_mono hg h.isBurn hib (fun j => by
    rw [getI_set hkl]
    split
    · rename_i e; subst e; omega
    · omega)
  refine ⟨hlen, hrng, hsum, by omega, ?_, ?_⟩
  · intro j hj
    rw [getI_set hkl] at hj
    split at hj
    · omega
    · have := h.zero j hj
      omega
  · intro c hc hcl j hj
    have hle := h.late c hc hcl
    have hmore := late_more hg h.isBurn hc hcl hn hnH hle
    rw [pre_set hkl]
    by_cases hkj : k < j
    · rw [if_pos hkj]
      have hcr := (isBurn_iff.1 hc).1
      have hct : ∀ i : Nat, getI c (i : Int) ≤ p.rate := fun i => (getI_in hcr (by have := hg.rate; omega) (i : Int)).2
      have hc0 : ∀ i : Nat, 0 ≤ getI c (i : Int) := fun i => (getI_in hcr (by have := hg.rate; omega) (i : Int)).1
      unfold preB at hmore ⊢
      rcases Nat.lt_or_ge j (n + 2) with hjn | hjn
      · have e1 := pre_diff (b := fun i => getI c (i : Int)) hct (n + 1 - j) j
        have e2 := pre_same (b := fun i => getI b (i : Int)) (r := p.rate) (n + 1 - j) j (fun i h1 h2 => d4 i (by omega) (by omega))
        rw [show j + (n + 1 - j) = n + 1 by omega] at e1 e2
        omega
      · have e2 := pre_same (b := fun i => getI b (i : Int)) (r := 0) (j - (n + 1)) (n + 1) (fun i h1 h2 => by
          by_cases hne : getI b (i : Int) = 0
          · exact hne
          · have := h.zero i hne
            omega)
        have e1 := pre_up (b := fun i => getI c (i : Int)) hc0 (n + 1)
        have e1 := e1 (j - (n + 1))
        rw [show n + 1 + (j - (n + 1)) = j by omega] at e1 e2
        rw [Int.mul_zero] at e2
        omega
    · rw [if_neg hkj]
      have := hle j hj
      omega

theorem plan_end {p : Plant} (hg : PlantGood p) : ∀ (f : Nat) (b : List Int) (u : Int), Step p b u → f = (p.units - u).toNat + 1 →
    (∃ b' u', planF (gridOf p) f b u = some (b', u') ∧ Step p b' u' ∧ LastsAll p b') ∨ (planF (gridOf p) f b u = none ∧ ∀ c, isBurnB p c = true → ¬ LastsAll p c)
  | 0, _, _, _, h => by omega
  | f + 1, b, u, h, hf => by
    have hpe : (gridOf p).p = p := rfl
    obtain ⟨H, hgo, hH⟩ := grid_good hg
    obtain ⟨e, _, _⟩ := grid_lens hg
    obtain ⟨r1, r2, _⟩ := hardF_range hgo b
    have hHe : (gridOf p).hours = (H : Int) := hgo.hours
    rw [planF, hpe]
    by_cases hfin : (hardF (gridOf p) b).2 = (gridOf p).hours
    · rw [if_pos hfin]
      exact Or.inl ⟨b, u, rfl, h, (hard_all hg).1 hfin⟩
    · rw [if_neg hfin]
      obtain ⟨n, hn⟩ : ∃ n : Nat, (hardF (gridOf p) b).2 = n := ⟨(hardF (gridOf p) b).2.toNat, by omega⟩
      have hnH : n < p.sun.length := by omega
      rw [hn, Int.toNat_natCast]
      obtain ⟨d1, d2, d3⟩ := downF_range p.rate b (n + 1)
      have d4 := down_spec p.rate b (n + 1)
      have htop := h.top
      by_cases hstop : downF p.rate b (n + 1) < 0 ∨ u = p.units
      · rw [if_pos hstop]
        refine Or.inr ⟨rfl, fun c hc hcl => ?_⟩
        have hle := h.late c hc hcl
        have hmore := late_more hg h.isBurn hc hcl hn hnH hle
        have hcr := isBurn_iff.1 hc
        have hct : ∀ i : Nat, getI c (i : Int) ≤ p.rate := fun i => (getI_in hcr.1 (by have := hg.rate; omega) (i : Int)).2
        have hc0 : ∀ i : Nat, 0 ≤ getI c (i : Int) := fun i => (getI_in hcr.1 (by have := hg.rate; omega) (i : Int)).1
        rcases hstop with hs | hs
        · have e1 := pre_diff (b := fun i => getI c (i : Int)) hct (n + 1) 0
          have e2 := pre_same (b := fun i => getI b (i : Int)) (r := p.rate) (n + 1) 0 (fun i h1 h2 => d4 i (by omega) (by omega))
          unfold preB at hmore
          rw [Nat.zero_add] at e1 e2
          simp only [pre] at e1 e2 hmore
          omega
        · have e2 := pre_same (b := fun i => getI b (i : Int)) (r := 0) (p.sun.length - (n + 1)) (n + 1) (fun i h1 h2 => by
            by_cases hne : getI b (i : Int) = 0
            · exact hne
            · have := h.zero i hne
              omega)
          have e1 := pre_up (b := fun i => getI c (i : Int)) hc0 (n + 1)
          have e1 := e1 (p.sun.length - (n + 1))
          rw [show n + 1 + (p.sun.length - (n + 1)) = p.sun.length by omega] at e1 e2
          have t1 := pre_all b
          have t2 := pre_all c
          have := h.sum
          rw [h.len] at t1
          rw [hcr.2.1] at t2
          unfold preB at hmore t1 t2
          rw [Int.mul_zero] at e2
          omega
      · rw [if_neg hstop]
        obtain ⟨k, hk⟩ : ∃ k : Nat, downF p.rate b (n + 1) = k := ⟨(downF p.rate b (n + 1)).toNat, by omega⟩
        rw [hk, Int.toNat_natCast]
        exact plan_end hg f _ _ (step_next hg h hn hnH hk (by omega)) (by omega)

theorem step_zero {p : Plant} (hg : PlantGood p) : Step p (List.replicate p.sun.length 0) 0 := by
  have hget : ∀ j : Nat, getI (List.replicate p.sun.length 0) (j : Int) = 0 := fun j => by
    unfold getI
    rw [List.getD_eq_getElem?_getD, List.getElem?_replicate]
    split <;> rfl
  have hpre : ∀ j, preB (List.replicate p.sun.length 0) j = 0 := fun j => by
    induction j with
    | zero => rfl
    | succ j ih => unfold preB at ih ⊢; rw [pre, ih, hget]; rfl
  refine ⟨by simp, fun x hx => ?_, ?_, hg.units.1, fun j hj => absurd (hget j) hj, fun c hc _ j hj => ?_⟩
  · rw [List.eq_of_mem_replicate hx]
    have := hg.rate
    omega
  · rw [← pre_all, hpre]
  · rw [hpre]
    have hcr := (isBurn_iff.1 hc).1
    clear hj
    unfold preB
    induction j with
    | zero => exact Int.le_refl _
    | succ j ih =>
      rw [pre]
      have := getI_in hcr (by have := hg.rate; omega) (j : Int)
      omega

/-- What the search of a plan finds. -/
theorem planG_spec {p : Plant} (hg : PlantGood p) :
    (∃ b u, planG (gridOf p) = some (b, u) ∧ Step p b u ∧ LastsAll p b) ∨ (planG (gridOf p) = none ∧ ∀ c, isBurnB p c = true → ¬ LastsAll p c) := by
  have e1 : planG (gridOf p) = planF (gridOf p) ((p.units - 0).toNat + 1) (List.replicate p.sun.length 0) 0 := by
    obtain ⟨e, _, _⟩ := grid_lens hg
    unfold planG
    rw [e, Int.toNat_natCast, Int.sub_zero]
    rfl
  rw [e1]
  exact plan_end hg _ _ _ (step_zero hg) rfl

/-- What Plan finds. -/
theorem plan_spec {p : Plant} (hg : PlantGood p) (hz : plantE p = 0) :
    (∃ b u, planP p = (b, u, 0) ∧ Step p b u ∧ LastsAll p b) ∨ (planP p = ([], 0, 3) ∧ ∀ c, isBurnB p c = true → ¬ LastsAll p c) := by
  unfold planP
  rw [openE_nil, if_pos hz]
  rcases planG_spec hg with ⟨b, u, h1, h2, h3⟩ | ⟨h1, h2⟩
  · rw [h1]
    exact Or.inl ⟨b, u, rfl, h2, h3⟩
  · rw [h1]
    exact Or.inr ⟨rfl, h2⟩
end Go.Ab
namespace Go.Ab
open Go.RowKit Go.Proofs
set_option maxHeartbeats 8000000
set_option maxRecDepth 20000
attribute [local irreducible] WalkL Walk

theorem f8 (p : Plant) (m : List Sky) (hs : PlantSmall p) (hml : m.length < 2 ^ 30) :
    Fn Try.prog 8 [.agg p.cells, .sl (skyRows m)] (.bool true) := by
  have h14 := f14 p hs
  have h15 := f15
  cases hv : validB p
  case false =>
    rw [hv, Plant.cells] at h14
    refine fn_walk 79 Try.call8 Try.func8 rfl (by decide) fun J => ?_
    simp (maxSteps := 4000000) only [go_sem, St.start, Try.ntmps8, Try.results8, Plant.cells]
    repeat (first | refine walkL_true rfl ?_ | refine walkL_false rfl ?_ | refine walkL_seq ?_ | refine walkL_skip ?_ | refine walkL_block ?_ | (refine walkL_region fun K hK => ?_; simp (maxSteps := 4000000) only [go_sem]; (repeat (first | (refine ⟨_, .lent (hf := h14) (hd := rfl) (hr := rfl), ?_⟩; simp (maxSteps := 4000000) only [go_sem]) | (refine ⟨_, .lent (hf := h15) (hd := rfl) (hr := rfl), ?_⟩; simp (maxSteps := 4000000) only [go_sem]) | (refine ⟨_, .given (hf := h14) (hd := rfl) (ha := rfl), ?_⟩; simp (maxSteps := 4000000) only [go_sem]) | (refine ⟨_, .given (hf := h15) (hd := rfl) (ha := rfl), ?_⟩; simp (maxSteps := 4000000) only [go_sem]))); refine hK _ ?_; clear hK K) | refine walkL_nil ?_ | refine walkL_ret ?_ | refine walkL_exit ?_ | refine blockA_here ?_ | refine blockA_other rfl ?_ | refine blockA_ret ?_ | refine blockA_normal ?_ | refine thenA_ret ?_ | refine thenA_exit ?_ | refine thenA_normal ?_)
    simp (maxSteps := 4000000) only [go_sem]
  case true =>
  obtain ⟨hz, hg, hH, hrt⟩ := asked hv
  have hrate := hg.rate
  rw [hv] at h14
  have h29 := f29 p m hg.fore hg.sights hml
  have h17 := f17 p hs
  cases q3 : weB p.scen p.seen m
  case false =>
    rw [Plant.cells] at h14 h29
    rw [q3] at h29
    refine fn_walk 79 Try.call8 Try.func8 rfl (by decide) fun J => ?_
    simp (maxSteps := 4000000) only [go_sem, St.start, Try.ntmps8, Try.results8, Plant.cells]
    repeat (first | refine walkL_true rfl ?_ | refine walkL_false rfl ?_ | refine walkL_seq ?_ | refine walkL_skip ?_ | refine walkL_block ?_ | (refine walkL_region fun K hK => ?_; simp (maxSteps := 4000000) only [go_sem]; (repeat (first | (refine ⟨_, .lent (hf := h14) (hd := rfl) (hr := rfl), ?_⟩; simp (maxSteps := 4000000) only [go_sem]) | (refine ⟨_, .lent (hf := h29) (hd := rfl) (hr := rfl), ?_⟩; simp (maxSteps := 4000000) only [go_sem]) | (refine ⟨_, .lent (hf := h15) (hd := rfl) (hr := rfl), ?_⟩; simp (maxSteps := 4000000) only [go_sem]) | (refine ⟨_, .given (hf := h14) (hd := rfl) (ha := rfl), ?_⟩; simp (maxSteps := 4000000) only [go_sem]) | (refine ⟨_, .given (hf := h29) (hd := rfl) (ha := rfl), ?_⟩; simp (maxSteps := 4000000) only [go_sem]) | (refine ⟨_, .given (hf := h15) (hd := rfl) (ha := rfl), ?_⟩; simp (maxSteps := 4000000) only [go_sem]))); refine hK _ ?_; clear hK K) | refine walkL_nil ?_ | refine walkL_ret ?_ | refine walkL_exit ?_ | refine blockA_here ?_ | refine blockA_other rfl ?_ | refine blockA_ret ?_ | refine blockA_normal ?_ | refine thenA_ret ?_ | refine thenA_exit ?_ | refine thenA_normal ?_)
    simp (maxSteps := 4000000) only [go_sem]
  case true =>
  rw [q3] at h29
  have hw := we_grid hg q3
  have hlen := ((we_iff hg).1 q3).1
  rcases plan_spec hg hz with ⟨b, u, e, hst, hla⟩ | ⟨e, _⟩
  · rw [e] at h17
    have hb := hst.isBurn
    have hbl := hst.len
    have h30 := f30 p b m hs (by omega)
    rw [levels_good hz hb hw] at h30
    have h21 := f21 p b (by omega) (by omega)
    rw [hb] at h21
    have h23 := f23 b p.rate (by omega) hst.rng (by omega)
    rw [hst.sum] at h23
    obtain ⟨l, hl, hlv⟩ := lv_worst hg hb q3
    obtain ⟨L, eL⟩ : ∃ L, L = lostTo p b m m.length := ⟨_, rfl⟩
    rw [← eL] at h30
    have q4 : ((m.length : Int) != m.length) = false := by simp
    have q5 : (u != u) = false := by simp
    rw [Plant.cells] at h14 h29 h30 h17 h21
    refine fn_walk 79 Try.call8 Try.func8 rfl (by decide) fun J => ?_
    simp (maxSteps := 4000000) only [go_sem, St.start, Try.ntmps8, Try.results8, Plant.cells]
    repeat (first | refine walkL_true rfl ?_ | refine walkL_false rfl ?_ | refine walkL_seq ?_ | refine walkL_skip ?_ | refine walkL_block ?_ | (refine walkL_region fun K hK => ?_; simp (maxSteps := 4000000) only [go_sem, q4, q5, levs_len]; (repeat (first | (refine ⟨_, .lent (hf := h14) (hd := rfl) (hr := rfl), ?_⟩; simp (maxSteps := 4000000) only [go_sem, q4, q5, levs_len]) | (refine ⟨_, .lent (hf := h21) (hd := rfl) (hr := rfl), ?_⟩; simp (maxSteps := 4000000) only [go_sem, q4, q5, levs_len]) | (refine ⟨_, .lent (hf := h29) (hd := rfl) (hr := rfl), ?_⟩; simp (maxSteps := 4000000) only [go_sem, q4, q5, levs_len]) | (refine ⟨_, .lent (hf := h15) (hd := rfl) (hr := rfl), ?_⟩; simp (maxSteps := 4000000) only [go_sem, q4, q5, levs_len]) | (refine ⟨_, .lent (hf := h30) (hd := rfl) (hr := rfl), ?_⟩; simp (maxSteps := 4000000) only [go_sem, q4, q5, levs_len]) | (refine ⟨_, .lent (hf := h17) (hd := rfl) (hr := rfl), ?_⟩; simp (maxSteps := 4000000) only [go_sem, q4, q5, levs_len]) | (refine ⟨_, .lent (hf := h23) (hd := rfl) (hr := rfl), ?_⟩; simp (maxSteps := 4000000) only [go_sem, q4, q5, levs_len]) | (refine ⟨_, .given (hf := h14) (hd := rfl) (ha := rfl), ?_⟩; simp (maxSteps := 4000000) only [go_sem, q4, q5, levs_len]) | (refine ⟨_, .given (hf := h21) (hd := rfl) (ha := rfl), ?_⟩; simp (maxSteps := 4000000) only [go_sem, q4, q5, levs_len]) | (refine ⟨_, .given (hf := h29) (hd := rfl) (ha := rfl), ?_⟩; simp (maxSteps := 4000000) only [go_sem, q4, q5, levs_len]) | (refine ⟨_, .given (hf := h15) (hd := rfl) (ha := rfl), ?_⟩; simp (maxSteps := 4000000) only [go_sem, q4, q5, levs_len]) | (refine ⟨_, .given (hf := h30) (hd := rfl) (ha := rfl), ?_⟩; simp (maxSteps := 4000000) only [go_sem, q4, q5, levs_len]) | (refine ⟨_, .given (hf := h17) (hd := rfl) (ha := rfl), ?_⟩; simp (maxSteps := 4000000) only [go_sem, q4, q5, levs_len]) | (refine ⟨_, .given (hf := h23) (hd := rfl) (ha := rfl), ?_⟩; simp (maxSteps := 4000000) only [go_sem, q4, q5, levs_len]))); refine hK _ ?_; clear hK K) | refine walkL_nil ?_ | refine walkL_ret ?_ | refine walkL_exit ?_ | refine blockA_here ?_ | refine blockA_other rfl ?_ | refine blockA_ret ?_ | refine blockA_normal ?_ | refine thenA_ret ?_ | refine thenA_exit ?_ | refine thenA_normal ?_)
    refine walkL_loopS (fun (i : Nat) => [(11, .d (.i i))]) (fun _ => []) (fun i => i ≤ m.length) (fun i => m.length - i) 0 ?_ (Nat.zero_le _) ?_
    · simp (maxSteps := 4000000) only [go_sem]
      refine weak_of [] ?_ ?_ rfl rfl <;> simp [lessT, lessM, lessB, AV.less]
    · intro i hi
      simp (maxSteps := 4000000) only [go_sem, levs_len]
      repeat (first | refine walkL_seq ?_ | refine walkL_skip ?_ | refine walkL_block ?_ | (refine walkL_region fun K hK => ?_; simp (maxSteps := 4000000) only [go_sem, levs_len]; refine hK _ ?_; clear hK K) | refine walkL_nil ?_ | refine walkL_ret ?_ | refine walkL_exit ?_ | refine blockA_here ?_ | refine blockA_other rfl ?_ | refine blockA_ret ?_ | refine blockA_normal ?_ | refine thenA_ret ?_ | refine thenA_exit ?_ | refine thenA_normal ?_)
      refine walkL_cond rfl (fun hb => ?_) (fun hb => ?_)
      · have hlt : i < m.length := by simpa using hb
        have hw : IntKind.i64.wrap ((i : Int) + 1) = ((i + 1 : Nat) : Int) := by rw [wr_small (by omega)]; simp
        have g1 := levs_get p b m hlt
        have r1 := hlv (i + 1) (by omega)
        have r2 := hla l hl i (by omega)
        have q6 : decide (lvAt p b m (i + 1) < p.reserve) = false := by simp; omega
        repeat (first | refine walkL_true rfl ?_ | refine walkL_false rfl ?_ | refine walkL_seq ?_ | refine walkL_skip ?_ | refine walkL_block ?_ | (refine walkL_region fun K hK => ?_; simp (maxSteps := 4000000) only [go_sem, g1, q6, hw]; refine hK _ ?_; clear hK K) | (refine walkL_drawn (by kernel_rfl) (by kernel_rfl) fun K hK => ?_; simp (maxSteps := 4000000) only [go_sem, g1, q6, hw]; refine ⟨by kernel_rfl, hK _ ?_⟩; clear hK K) | refine walkL_nil ?_ | refine walkL_ret ?_ | refine walkL_exit ?_ | refine blockA_here ?_ | refine blockA_other rfl ?_ | refine blockA_ret ?_ | refine blockA_normal ?_ | refine thenA_ret ?_ | refine thenA_exit ?_ | refine thenA_normal ?_)
        refine ⟨rfl, i + 1, ?_, hlt, by omega⟩
        refine weak_of [] ?_ ?_ rfl rfl <;> simp [lessT, lessM, lessB, AV.less]
      · have he : i = m.length := by (have : ¬ i < m.length := by simpa using hb); omega
        subst he
        repeat (first | refine walkL_true rfl ?_ | refine walkL_false rfl ?_ | refine walkL_seq ?_ | refine walkL_skip ?_ | refine walkL_block ?_ | (refine walkL_region fun K hK => ?_; simp (maxSteps := 4000000) only [go_sem]; (repeat (first | (refine ⟨_, .lent (hf := h15) (hd := rfl) (hr := rfl), ?_⟩; simp (maxSteps := 4000000) only [go_sem]) | (refine ⟨_, .given (hf := h15) (hd := rfl) (ha := rfl), ?_⟩; simp (maxSteps := 4000000) only [go_sem]))); refine hK _ ?_; clear hK K) | refine walkL_nil ?_ | refine walkL_ret ?_ | refine walkL_exit ?_ | refine blockA_here ?_ | refine blockA_other rfl ?_ | refine blockA_ret ?_ | refine blockA_normal ?_ | refine thenA_ret ?_ | refine thenA_exit ?_ | refine thenA_normal ?_)
        simp (maxSteps := 4000000) only [go_sem]
  · rw [e] at h17
    rw [Plant.cells] at h14 h29 h17
    refine fn_walk 79 Try.call8 Try.func8 rfl (by decide) fun J => ?_
    simp (maxSteps := 4000000) only [go_sem, St.start, Try.ntmps8, Try.results8, Plant.cells]
    repeat (first | refine walkL_true rfl ?_ | refine walkL_false rfl ?_ | refine walkL_seq ?_ | refine walkL_skip ?_ | refine walkL_block ?_ | (refine walkL_region fun K hK => ?_; simp (maxSteps := 4000000) only [go_sem]; (repeat (first | (refine ⟨_, .lent (hf := h14) (hd := rfl) (hr := rfl), ?_⟩; simp (maxSteps := 4000000) only [go_sem]) | (refine ⟨_, .lent (hf := h29) (hd := rfl) (hr := rfl), ?_⟩; simp (maxSteps := 4000000) only [go_sem]) | (refine ⟨_, .lent (hf := h15) (hd := rfl) (hr := rfl), ?_⟩; simp (maxSteps := 4000000) only [go_sem]) | (refine ⟨_, .lent (hf := h17) (hd := rfl) (hr := rfl), ?_⟩; simp (maxSteps := 4000000) only [go_sem]) | (refine ⟨_, .given (hf := h14) (hd := rfl) (ha := rfl), ?_⟩; simp (maxSteps := 4000000) only [go_sem]) | (refine ⟨_, .given (hf := h29) (hd := rfl) (ha := rfl), ?_⟩; simp (maxSteps := 4000000) only [go_sem]) | (refine ⟨_, .given (hf := h15) (hd := rfl) (ha := rfl), ?_⟩; simp (maxSteps := 4000000) only [go_sem]) | (refine ⟨_, .given (hf := h17) (hd := rfl) (ha := rfl), ?_⟩; simp (maxSteps := 4000000) only [go_sem]))); refine hK _ ?_; clear hK K) | refine walkL_nil ?_ | refine walkL_ret ?_ | refine walkL_exit ?_ | refine blockA_here ?_ | refine blockA_other rfl ?_ | refine blockA_ret ?_ | refine blockA_normal ?_ | refine thenA_ret ?_ | refine thenA_exit ?_ | refine thenA_normal ?_)
    simp (maxSteps := 4000000) only [go_sem]

/-! ### The late gas -/

theorem lastsP_good {p : Plant} (hz : plantE p = 0) {burn : List Int} (hb : isBurnB p burn = true) : lastsP p burn = ((hardF (gridOf p) burn).2, 0) := by
  unfold lastsP
  rw [open_burn hz, hb, if_pos rfl, if_pos rfl]

theorem f5 (p : Plant) (c : List Int) (hs : PlantSmall p) (hcl : c.length < 2 ^ 30) :
    Fn Try.prog 5 [.agg p.cells, .sl (intRows c)] (.bool true) := by
  have h14 := f14 p hs
  have h15 := f15
  cases hv : validB p
  case false =>
    rw [hv, Plant.cells] at h14
    refine fn_walk 92 Try.call5 Try.func5 rfl (by decide) fun J => ?_
    simp (maxSteps := 4000000) only [go_sem, St.start, Try.ntmps5, Try.results5, Plant.cells]
    repeat (first | refine walkL_true rfl ?_ | refine walkL_false rfl ?_ | refine walkL_seq ?_ | refine walkL_skip ?_ | refine walkL_block ?_ | (refine walkL_region fun K hK => ?_; simp (maxSteps := 4000000) only [go_sem]; (repeat (first | (refine ⟨_, .lent (hf := h14) (hd := rfl) (hr := rfl), ?_⟩; simp (maxSteps := 4000000) only [go_sem]) | (refine ⟨_, .lent (hf := h15) (hd := rfl) (hr := rfl), ?_⟩; simp (maxSteps := 4000000) only [go_sem]) | (refine ⟨_, .given (hf := h14) (hd := rfl) (ha := rfl), ?_⟩; simp (maxSteps := 4000000) only [go_sem]) | (refine ⟨_, .given (hf := h15) (hd := rfl) (ha := rfl), ?_⟩; simp (maxSteps := 4000000) only [go_sem]))); refine hK _ ?_; clear hK K) | refine walkL_nil ?_ | refine walkL_ret ?_ | refine walkL_exit ?_ | refine blockA_here ?_ | refine blockA_other rfl ?_ | refine blockA_ret ?_ | refine blockA_normal ?_ | refine thenA_ret ?_ | refine thenA_exit ?_ | refine thenA_normal ?_)
    simp (maxSteps := 4000000) only [go_sem]
  case true =>
  obtain ⟨hz, hg, hH, hrt⟩ := asked hv
  have hrate := hg.rate
  rw [hv] at h14
  have h21 := f21 p c (by omega) hcl
  cases q1 : decide ((c.length : Int) > 100)
  case true =>
    rw [Plant.cells] at h14
    refine fn_walk 92 Try.call5 Try.func5 rfl (by decide) fun J => ?_
    simp (maxSteps := 4000000) only [go_sem, St.start, Try.ntmps5, Try.results5, Plant.cells]
    repeat (first | refine walkL_true rfl ?_ | refine walkL_false rfl ?_ | refine walkL_seq ?_ | refine walkL_skip ?_ | refine walkL_block ?_ | (refine walkL_region fun K hK => ?_; simp (maxSteps := 4000000) only [go_sem, q1]; (repeat (first | (refine ⟨_, .lent (hf := h14) (hd := rfl) (hr := rfl), ?_⟩; simp (maxSteps := 4000000) only [go_sem, q1]) | (refine ⟨_, .lent (hf := h15) (hd := rfl) (hr := rfl), ?_⟩; simp (maxSteps := 4000000) only [go_sem, q1]) | (refine ⟨_, .given (hf := h14) (hd := rfl) (ha := rfl), ?_⟩; simp (maxSteps := 4000000) only [go_sem, q1]) | (refine ⟨_, .given (hf := h15) (hd := rfl) (ha := rfl), ?_⟩; simp (maxSteps := 4000000) only [go_sem, q1]))); refine hK _ ?_; clear hK K) | refine walkL_nil ?_ | refine walkL_ret ?_ | refine walkL_exit ?_ | refine blockA_here ?_ | refine blockA_other rfl ?_ | refine blockA_ret ?_ | refine blockA_normal ?_ | refine thenA_ret ?_ | refine thenA_exit ?_ | refine thenA_normal ?_)
    simp (maxSteps := 4000000) only [go_sem]
  case false =>
  cases q2 : isBurnB p c
  case false =>
    rw [Plant.cells] at h14 h21
    rw [q2] at h21
    refine fn_walk 92 Try.call5 Try.func5 rfl (by decide) fun J => ?_
    simp (maxSteps := 4000000) only [go_sem, St.start, Try.ntmps5, Try.results5, Plant.cells]
    repeat (first | refine walkL_true rfl ?_ | refine walkL_false rfl ?_ | refine walkL_seq ?_ | refine walkL_skip ?_ | refine walkL_block ?_ | (refine walkL_region fun K hK => ?_; simp (maxSteps := 4000000) only [go_sem, q1]; (repeat (first | (refine ⟨_, .lent (hf := h14) (hd := rfl) (hr := rfl), ?_⟩; simp (maxSteps := 4000000) only [go_sem, q1]) | (refine ⟨_, .lent (hf := h21) (hd := rfl) (hr := rfl), ?_⟩; simp (maxSteps := 4000000) only [go_sem, q1]) | (refine ⟨_, .lent (hf := h15) (hd := rfl) (hr := rfl), ?_⟩; simp (maxSteps := 4000000) only [go_sem, q1]) | (refine ⟨_, .given (hf := h14) (hd := rfl) (ha := rfl), ?_⟩; simp (maxSteps := 4000000) only [go_sem, q1]) | (refine ⟨_, .given (hf := h21) (hd := rfl) (ha := rfl), ?_⟩; simp (maxSteps := 4000000) only [go_sem, q1]) | (refine ⟨_, .given (hf := h15) (hd := rfl) (ha := rfl), ?_⟩; simp (maxSteps := 4000000) only [go_sem, q1]))); refine hK _ ?_; clear hK K) | refine walkL_nil ?_ | refine walkL_ret ?_ | refine walkL_exit ?_ | refine blockA_here ?_ | refine blockA_other rfl ?_ | refine blockA_ret ?_ | refine blockA_normal ?_ | refine thenA_ret ?_ | refine thenA_exit ?_ | refine thenA_normal ?_)
    simp (maxSteps := 4000000) only [go_sem]
  case true =>
  rw [q2] at h21
  have h17 := f17 p hs
  have h22 := f22 p c hs hcl
  rw [lastsP_good hz q2] at h22
  have hcr := isBurn_iff.1 q2
  have hcn := hcr.2.1
  obtain ⟨eH, eH1, eH2⟩ := grid_lens hg
  obtain ⟨n, hn⟩ : ∃ n, n = (hardF (gridOf p) c).2 := ⟨_, rfl⟩
  rw [← hn] at h22
  have hhard := hard_all hg (burn := c)
  rw [← hn] at hhard
  cases q3 : decide (n < (c.length : Int))
  case true =>
    rcases plan_spec hg hz with ⟨b, u, e, hst, hla⟩ | ⟨e, _⟩
    all_goals
      rw [e] at h17
      rw [Plant.cells] at h14 h21 h17 h22
      refine fn_walk 92 Try.call5 Try.func5 rfl (by decide) fun J => ?_
      simp (maxSteps := 4000000) only [go_sem, St.start, Try.ntmps5, Try.results5, Plant.cells]
      repeat (first | refine walkL_true rfl ?_ | refine walkL_false rfl ?_ | refine walkL_seq ?_ | refine walkL_skip ?_ | refine walkL_block ?_ | (refine walkL_region fun K hK => ?_; simp (maxSteps := 4000000) only [go_sem, q1, q3]; (repeat (first | (refine ⟨_, .lent (hf := h14) (hd := rfl) (hr := rfl), ?_⟩; simp (maxSteps := 4000000) only [go_sem, q1, q3]) | (refine ⟨_, .lent (hf := h21) (hd := rfl) (hr := rfl), ?_⟩; simp (maxSteps := 4000000) only [go_sem, q1, q3]) | (refine ⟨_, .lent (hf := h15) (hd := rfl) (hr := rfl), ?_⟩; simp (maxSteps := 4000000) only [go_sem, q1, q3]) | (refine ⟨_, .lent (hf := h17) (hd := rfl) (hr := rfl), ?_⟩; simp (maxSteps := 4000000) only [go_sem, q1, q3]) | (refine ⟨_, .lent (hf := h22) (hd := rfl) (hr := rfl), ?_⟩; simp (maxSteps := 4000000) only [go_sem, q1, q3]) | (refine ⟨_, .given (hf := h14) (hd := rfl) (ha := rfl), ?_⟩; simp (maxSteps := 4000000) only [go_sem, q1, q3]) | (refine ⟨_, .given (hf := h21) (hd := rfl) (ha := rfl), ?_⟩; simp (maxSteps := 4000000) only [go_sem, q1, q3]) | (refine ⟨_, .given (hf := h15) (hd := rfl) (ha := rfl), ?_⟩; simp (maxSteps := 4000000) only [go_sem, q1, q3]) | (refine ⟨_, .given (hf := h17) (hd := rfl) (ha := rfl), ?_⟩; simp (maxSteps := 4000000) only [go_sem, q1, q3]) | (refine ⟨_, .given (hf := h22) (hd := rfl) (ha := rfl), ?_⟩; simp (maxSteps := 4000000) only [go_sem, q1, q3]))); refine hK _ ?_; clear hK K) | refine walkL_nil ?_ | refine walkL_ret ?_ | refine walkL_exit ?_ | refine blockA_here ?_ | refine blockA_other rfl ?_ | refine blockA_ret ?_ | refine blockA_normal ?_ | refine thenA_ret ?_ | refine thenA_exit ?_ | refine thenA_normal ?_)
      simp (maxSteps := 4000000) only [go_sem]
  case false =>
  have q3' := of_decide_eq_false q3
  have hrange : n ≤ p.sun.length := by
    have hz' := hz
    rw [← openE_nil] at hz'
    obtain ⟨H, hgo, hH'⟩ := grid_ok hz'
    obtain ⟨_, r2, _⟩ := hardF_range hgo c
    have := hgo.hours
    omega
  have hla := hhard.1 (by omega)
  rcases plan_spec hg hz with ⟨b, u, e, hst, hlb⟩ | ⟨e, hno⟩
  · rw [e] at h17
    have hbl := hst.len
    have h23 := f23 c p.rate (by omega) hcr.1 (by omega)
    have hlate := hst.late c q2 hla
    have t1 := pre_all b
    have t2 := pre_all c
    rw [hst.sum, hst.len] at t1
    rw [hcn] at t2
    have q4 : ((b.length : Int) != c.length) = false := by simp; omega
    have q5 : decide (sumI c < u) = false := by
      have := hlate _ (Nat.le_refl _)
      simp; omega
    rw [Plant.cells] at h14 h21 h17 h22
    refine fn_walk 92 Try.call5 Try.func5 rfl (by decide) fun J => ?_
    simp (maxSteps := 4000000) only [go_sem, St.start, Try.ntmps5, Try.results5, Plant.cells]
    repeat (first | refine walkL_true rfl ?_ | refine walkL_false rfl ?_ | refine walkL_seq ?_ | refine walkL_skip ?_ | refine walkL_block ?_ | (refine walkL_region fun K hK => ?_; simp (maxSteps := 4000000) only [go_sem, q1, q3, q4, q5]; (repeat (first | (refine ⟨_, .lent (hf := h14) (hd := rfl) (hr := rfl), ?_⟩; simp (maxSteps := 4000000) only [go_sem, q1, q3, q4, q5]) | (refine ⟨_, .lent (hf := h21) (hd := rfl) (hr := rfl), ?_⟩; simp (maxSteps := 4000000) only [go_sem, q1, q3, q4, q5]) | (refine ⟨_, .lent (hf := h15) (hd := rfl) (hr := rfl), ?_⟩; simp (maxSteps := 4000000) only [go_sem, q1, q3, q4, q5]) | (refine ⟨_, .lent (hf := h17) (hd := rfl) (hr := rfl), ?_⟩; simp (maxSteps := 4000000) only [go_sem, q1, q3, q4, q5]) | (refine ⟨_, .lent (hf := h22) (hd := rfl) (hr := rfl), ?_⟩; simp (maxSteps := 4000000) only [go_sem, q1, q3, q4, q5]) | (refine ⟨_, .lent (hf := h23) (hd := rfl) (hr := rfl), ?_⟩; simp (maxSteps := 4000000) only [go_sem, q1, q3, q4, q5]) | (refine ⟨_, .given (hf := h14) (hd := rfl) (ha := rfl), ?_⟩; simp (maxSteps := 4000000) only [go_sem, q1, q3, q4, q5]) | (refine ⟨_, .given (hf := h21) (hd := rfl) (ha := rfl), ?_⟩; simp (maxSteps := 4000000) only [go_sem, q1, q3, q4, q5]) | (refine ⟨_, .given (hf := h15) (hd := rfl) (ha := rfl), ?_⟩; simp (maxSteps := 4000000) only [go_sem, q1, q3, q4, q5]) | (refine ⟨_, .given (hf := h17) (hd := rfl) (ha := rfl), ?_⟩; simp (maxSteps := 4000000) only [go_sem, q1, q3, q4, q5]) | (refine ⟨_, .given (hf := h22) (hd := rfl) (ha := rfl), ?_⟩; simp (maxSteps := 4000000) only [go_sem, q1, q3, q4, q5]) | (refine ⟨_, .given (hf := h23) (hd := rfl) (ha := rfl), ?_⟩; simp (maxSteps := 4000000) only [go_sem, q1, q3, q4, q5]))); refine hK _ ?_; clear hK K) | refine walkL_nil ?_ | refine walkL_ret ?_ | refine walkL_exit ?_ | refine blockA_here ?_ | refine blockA_other rfl ?_ | refine blockA_ret ?_ | refine blockA_normal ?_ | refine thenA_ret ?_ | refine thenA_exit ?_ | refine thenA_normal ?_)
    refine walkL_loopS (fun (i : Nat) => [(12, .d (.i i)), (10, .d (.i (preB b i))), (11, .d (.i (preB c i)))]) (fun _ => []) (fun i => i ≤ c.length) (fun i => c.length - i) 0 ?_ (Nat.zero_le _) ?_
    · simp (maxSteps := 4000000) only [go_sem]
      refine weak_of [] ?_ ?_ rfl rfl <;> simp [lessT, lessM, lessB, AV.less]
      all_goals first | done | rfl | exact ⟨rfl, rfl⟩
    · intro i hi
      simp (maxSteps := 4000000) only [go_sem]
      repeat (first | refine walkL_seq ?_ | refine walkL_skip ?_ | refine walkL_block ?_ | (refine walkL_region fun K hK => ?_; simp (maxSteps := 4000000) only [go_sem]; refine hK _ ?_; clear hK K) | refine walkL_nil ?_ | refine walkL_ret ?_ | refine walkL_exit ?_ | refine blockA_here ?_ | refine blockA_other rfl ?_ | refine blockA_ret ?_ | refine blockA_normal ?_ | refine thenA_ret ?_ | refine thenA_exit ?_ | refine thenA_normal ?_)
      refine walkL_cond rfl (fun hb => ?_) (fun hb => ?_)
      · have hlt : i < c.length := by simpa using hb
        have hw : IntKind.i64.wrap ((i : Int) + 1) = ((i + 1 : Nat) : Int) := by rw [wr_small (by omega)]; simp
        have g1 := intRows_get (l := b) (i := (i : Int)) (by omega) (by omega)
        have g2 := intRows_get (l := c) (i := (i : Int)) (by omega) (by omega)
        rw [Int.toNat_natCast] at g1 g2
        have p1 := pre_take b (i + 1) (by omega)
        have p2 := pre_take c (i + 1) (by omega)
        have s1 := sumI_range (l := b.take (i + 1)) hrate.1 (fun y hy => hst.rng y (List.mem_of_mem_take hy))
        have s2 := sumI_range (l := c.take (i + 1)) hrate.1 (fun y hy => hcr.1 y (List.mem_of_mem_take hy))
        have l1 : (b.take (i + 1)).length = i + 1 := by simp; omega
        have l2 : (c.take (i + 1)).length = i + 1 := by simp; omega
        rw [l1, ← p1] at s1
        rw [l2, ← p2] at s2
        have hri : p.rate * ((i + 1 : Nat) : Int) ≤ 1000 * ((i + 1 : Nat) : Int) := Int.mul_le_mul_of_nonneg_right (by omega) (by omega)
        have w1 : IntKind.i64.wrap (preB b i + getI b i) = preB b (i + 1) := by
          have : preB b (i + 1) = preB b i + getI b i := rfl
          rw [← this]
          exact wr_small (by omega)
        have w2 : IntKind.i64.wrap (preB c i + getI c i) = preB c (i + 1) := by
          have : preB c (i + 1) = preB c i + getI c i := rfl
          rw [← this]
          exact wr_small (by omega)
        have q6 : decide (preB c (i + 1) < preB b (i + 1)) = false := by
          have := hlate (i + 1) (by omega)
          simp; omega
        repeat (first | refine walkL_true rfl ?_ | refine walkL_false rfl ?_ | refine walkL_seq ?_ | refine walkL_skip ?_ | refine walkL_block ?_ | (refine walkL_region fun K hK => ?_; simp (maxSteps := 4000000) only [go_sem, g1, g2, w1, w2, q6, hw]; refine hK _ ?_; clear hK K) | refine walkL_nil ?_ | refine walkL_ret ?_ | refine walkL_exit ?_ | refine blockA_here ?_ | refine blockA_other rfl ?_ | refine blockA_ret ?_ | refine blockA_normal ?_ | refine thenA_ret ?_ | refine thenA_exit ?_ | refine thenA_normal ?_)
        refine ⟨rfl, i + 1, ?_, hlt, by omega⟩
        refine weak_of [] ?_ ?_ rfl rfl <;> simp [lessT, lessM, lessB, AV.less]
      · have he : i = c.length := by (have : ¬ i < c.length := by simpa using hb); omega
        subst he
        repeat (first | refine walkL_true rfl ?_ | refine walkL_false rfl ?_ | refine walkL_seq ?_ | refine walkL_skip ?_ | refine walkL_block ?_ | (refine walkL_region fun K hK => ?_; simp (maxSteps := 4000000) only [go_sem]; (repeat (first | (refine ⟨_, .lent (hf := h15) (hd := rfl) (hr := rfl), ?_⟩; simp (maxSteps := 4000000) only [go_sem]) | (refine ⟨_, .given (hf := h15) (hd := rfl) (ha := rfl), ?_⟩; simp (maxSteps := 4000000) only [go_sem]))); refine hK _ ?_; clear hK K) | refine walkL_nil ?_ | refine walkL_ret ?_ | refine walkL_exit ?_ | refine blockA_here ?_ | refine blockA_other rfl ?_ | refine blockA_ret ?_ | refine blockA_normal ?_ | refine thenA_ret ?_ | refine thenA_exit ?_ | refine thenA_normal ?_)
        simp (maxSteps := 4000000) only [go_sem]
  · exact absurd hla (hno c q2)
end Go.Ab
namespace Go.Ab
open Go.RowKit Go.Proofs
set_option maxHeartbeats 8000000
set_option maxRecDepth 20000
attribute [local irreducible] WalkL Walk

/-! ### The worst weather -/

theorem countTo_congr {q r : Nat → Bool} : ∀ (k i : Nat), (∀ j, i ≤ j → j < i + k → q j = r j) → countTo q k i = countTo r k i
  | 0, _, _ => rfl
  | k + 1, i, h => by
    rw [countTo, countTo, h i (Nat.le_refl _) (by omega), countTo_congr k (i + 1) (fun j h1 h2 => h j (by omega) (by omega))]

def hoursI (p : Plant) (l : List Int) : Nat := countTo (fun j => decide (getI l (j : Int) ≥ p.reserve)) l.length 0

theorem f37 (p : Plant) (l : List Int) (hl : l.length < 2 ^ 30) : Fn Try.prog 37 [.agg p.cells, .sl (intRows l)] (.i (hoursI p l)) := by
  refine fn_walk 23 Try.call37 Try.func37 rfl (by decide) fun J => ?_
  simp (maxSteps := 4000000) only [go_sem, St.start, Try.ntmps37, Try.results37, Plant.cells]
  repeat (first | refine walkL_seq ?_ | refine walkL_skip ?_ | refine walkL_block ?_ | (refine walkL_region fun K hK => ?_; simp (maxSteps := 4000000) only [go_sem]; refine hK _ ?_; clear hK K) | refine walkL_nil ?_ | refine walkL_ret ?_ | refine walkL_exit ?_ | refine blockA_here ?_ | refine blockA_other rfl ?_ | refine blockA_ret ?_ | refine blockA_normal ?_ | refine thenA_ret ?_ | refine thenA_exit ?_ | refine thenA_normal ?_)
  refine walkL_loopS (fun (i : Nat) => [(5, .d (.i i))]) (fun _ => []) (fun i => i ≤ l.length ∧ hoursI p l = countTo (fun j => decide (getI l (j : Int) ≥ p.reserve)) (l.length - i) i) (fun i => l.length - i) 0 ?_ ⟨Nat.zero_le _, rfl⟩ ?_
  · simp (maxSteps := 4000000) only [go_sem]
    refine weak_of [] ?_ ?_ rfl rfl <;> simp [lessT, lessM, lessB, AV.less]
  · intro i ⟨hi, hc⟩
    simp (maxSteps := 4000000) only [go_sem]
    by_cases hlt : i < l.length
    · have hd : decide ((i : Int) < l.length) = true := by simp; omega
      have hw : IntKind.i64.wrap ((i : Int) + 1) = ((i + 1 : Nat) : Int) := by rw [wr_small (by omega)]; simp
      have g1 := intRows_get (l := l) (i := (i : Int)) (by omega) (by omega)
      rw [Int.toNat_natCast] at g1
      rw [show l.length - i = (l.length - (i + 1)) + 1 by omega, countTo] at hc
      cases q : decide (getI l (i : Int) ≥ p.reserve)
      · rw [q, if_neg (by simp)] at hc
        repeat (first | refine walkL_true rfl ?_ | refine walkL_false rfl ?_ | refine walkL_seq ?_ | refine walkL_skip ?_ | refine walkL_block ?_ | (refine walkL_region fun K hK => ?_; simp (maxSteps := 4000000) only [go_sem, hd, g1, q]; refine hK _ ?_; clear hK K) | (refine walkL_drawn (by kernel_rfl) (by kernel_rfl) fun K hK => ?_; simp (maxSteps := 4000000) only [go_sem, hd, g1, q]; refine ⟨by kernel_rfl, hK _ ?_⟩; clear hK K) | refine walkL_nil ?_ | refine walkL_ret ?_ | refine walkL_exit ?_ | refine blockA_here ?_ | refine blockA_other rfl ?_ | refine blockA_ret ?_ | refine blockA_normal ?_ | refine thenA_ret ?_ | refine thenA_exit ?_ | refine thenA_normal ?_)
        simp (maxSteps := 4000000) only [go_sem, hc]
      · rw [q, if_pos rfl] at hc
        repeat (first | refine walkL_true rfl ?_ | refine walkL_false rfl ?_ | refine walkL_seq ?_ | refine walkL_skip ?_ | refine walkL_block ?_ | (refine walkL_region fun K hK => ?_; simp (maxSteps := 4000000) only [go_sem, hd, g1, q, hw]; refine hK _ ?_; clear hK K) | (refine walkL_drawn (by kernel_rfl) (by kernel_rfl) fun K hK => ?_; simp (maxSteps := 4000000) only [go_sem, hd, g1, q, hw]; refine ⟨by kernel_rfl, hK _ ?_⟩; clear hK K) | refine walkL_nil ?_ | refine walkL_ret ?_ | refine walkL_exit ?_ | refine blockA_here ?_ | refine blockA_other rfl ?_ | refine blockA_ret ?_ | refine blockA_normal ?_ | refine thenA_ret ?_ | refine thenA_exit ?_ | refine thenA_normal ?_)
        refine ⟨rfl, i + 1, ?_, ⟨hlt, hc⟩, by omega⟩
        refine weak_of [] ?_ ?_ rfl rfl <;> simp [lessT, lessM, lessB, AV.less]
    · have hd : decide ((i : Int) < l.length) = false := by simp; omega
      rw [show l.length - i = 0 by omega, countTo] at hc
      repeat (first | refine walkL_true rfl ?_ | refine walkL_false rfl ?_ | refine walkL_seq ?_ | refine walkL_skip ?_ | refine walkL_block ?_ | (refine walkL_region fun K hK => ?_; simp (maxSteps := 4000000) only [go_sem, hd]; refine hK _ ?_; clear hK K) | (refine walkL_drawn (by kernel_rfl) (by kernel_rfl) fun K hK => ?_; simp (maxSteps := 4000000) only [go_sem, hd]; refine ⟨by kernel_rfl, hK _ ?_⟩; clear hK K) | refine walkL_nil ?_ | refine walkL_ret ?_ | refine walkL_exit ?_ | refine blockA_here ?_ | refine blockA_other rfl ?_ | refine blockA_ret ?_ | refine blockA_normal ?_ | refine thenA_ret ?_ | refine thenA_exit ?_ | refine thenA_normal ?_)
      simp (maxSteps := 4000000) only [go_sem, hc]

theorem hours_levs (p : Plant) (burn : List Int) (m : List Sky) : hoursI p (levsTo p burn m m.length) = lastsW p burn m := by
  unfold hoursI lastsW
  rw [levs_len]
  refine countTo_congr _ _ fun j _ hj => ?_
  have e : getI (levsTo p burn m m.length) (j : Int) = lvAt p burn m (j + 1) := by
    unfold getI levsTo
    rw [List.getD_eq_getElem?_getD, Int.toNat_natCast, List.getElem?_map, List.getElem?_range (by omega)]
    rfl
  rw [e]
  by_cases h : lvAt p burn m (j + 1) < p.reserve
  · rw [decide_eq_true h, decide_eq_false (by omega)]; rfl
  · rw [decide_eq_false h, decide_eq_true (by omega)]; rfl

theorem worst_point (p : Plant) (s : Sky) : worstW p (pointH s) = s := by
  unfold worstW pointH
  dsimp only
  rw [ite_self]

/-- The worst weather is one of the document's. -/
theorem least_we {p : Plant} (hg : PlantGood p) {l : List Hour} (hl : l ∈ (gridOf p).scen) : weB p.scen p.seen (leastW p l) = true := by
  obtain ⟨l0, h0, ha, e⟩ := scens_mem.1 hl
  obtain ⟨hll, hlh⟩ := scen_ok hg hl
  have hsp := sights_spec hg.sights
  have hlen := hg.fore.len l0 h0
  have hsun := hg.sun
  refine (we_iff hg).2 ⟨by rw [least_len]; exact hll, fun s hs => ?_, l0, h0, ha, fun j hj => ?_⟩
  · have hr := sight_range hg h0 s hs
    have hsa := seenHours_at (seen := p.seen) (l := l0) s.hour.toNat (sight_range hg h0) hsp.2.1
    rw [least_at (by omega), e, hsa.1 s hs (by omega)]
    exact worst_point p s.sky
  · rw [least_len] at hj
    have hsa := seenHours_at (seen := p.seen) (l := l0) j (sight_range hg h0) hsp.2.1
    rw [least_at hj]
    by_cases hex : ∃ s ∈ p.seen, s.hour = (j : Int)
    · obtain ⟨s, hs, hj2⟩ := hex
      rw [e, hsa.1 s hs hj2, worst_point, ← hj2]
      exact List.all_eq_true.1 ha s hs
    · have e2 := hsa.2 (fun s hs he => hex ⟨s, hs, he⟩)
      rw [← e] at e2
      rw [← e2]
      exact worst_in (hlh j hj)

theorem f12 (p : Plant) (burn : List Int) (m : List Sky) (hs : PlantSmall p) (hbl : burn.length < 2 ^ 30) (hml : m.length < 2 ^ 30) :
    Fn Try.prog 12 [.agg p.cells, .sl (intRows burn), .sl (skyRows m)] (.bool true) := by
  have h14 := f14 p hs
  have h15 := f15
  cases hv : validB p
  case false =>
    rw [hv, Plant.cells] at h14
    refine fn_walk 122 Try.call12 Try.func12 rfl (by decide) fun J => ?_
    simp (maxSteps := 4000000) only [go_sem, St.start, Try.ntmps12, Try.results12, Plant.cells]
    repeat (first | refine walkL_true rfl ?_ | refine walkL_false rfl ?_ | refine walkL_seq ?_ | refine walkL_skip ?_ | refine walkL_block ?_ | (refine walkL_region fun K hK => ?_; simp (maxSteps := 4000000) only [go_sem]; (repeat (first | (refine ⟨_, .lent (hf := h14) (hd := rfl) (hr := rfl), ?_⟩; simp (maxSteps := 4000000) only [go_sem]) | (refine ⟨_, .lent (hf := h15) (hd := rfl) (hr := rfl), ?_⟩; simp (maxSteps := 4000000) only [go_sem]) | (refine ⟨_, .given (hf := h14) (hd := rfl) (ha := rfl), ?_⟩; simp (maxSteps := 4000000) only [go_sem]) | (refine ⟨_, .given (hf := h15) (hd := rfl) (ha := rfl), ?_⟩; simp (maxSteps := 4000000) only [go_sem]))); refine hK _ ?_; clear hK K) | refine walkL_nil ?_ | refine walkL_ret ?_ | refine walkL_exit ?_ | refine blockA_here ?_ | refine blockA_other rfl ?_ | refine blockA_ret ?_ | refine blockA_normal ?_ | refine thenA_ret ?_ | refine thenA_exit ?_ | refine thenA_normal ?_)
    simp (maxSteps := 4000000) only [go_sem]
  case true =>
  obtain ⟨hz, hg, hH, hrt⟩ := asked hv
  have hrate := hg.rate
  rw [hv] at h14
  have h21 := f21 p burn (by omega) hbl
  have h29 := f29 p m hg.fore hg.sights hml
  have h30 := f30 p burn m hs hbl
  cases q1 : decide ((burn.length : Int) > 100)
  case true =>
    rw [Plant.cells] at h14
    refine fn_walk 122 Try.call12 Try.func12 rfl (by decide) fun J => ?_
    simp (maxSteps := 4000000) only [go_sem, St.start, Try.ntmps12, Try.results12, Plant.cells]
    repeat (first | refine walkL_true rfl ?_ | refine walkL_false rfl ?_ | refine walkL_seq ?_ | refine walkL_skip ?_ | refine walkL_block ?_ | (refine walkL_region fun K hK => ?_; simp (maxSteps := 4000000) only [go_sem, q1]; (repeat (first | (refine ⟨_, .lent (hf := h14) (hd := rfl) (hr := rfl), ?_⟩; simp (maxSteps := 4000000) only [go_sem, q1]) | (refine ⟨_, .lent (hf := h15) (hd := rfl) (hr := rfl), ?_⟩; simp (maxSteps := 4000000) only [go_sem, q1]) | (refine ⟨_, .given (hf := h14) (hd := rfl) (ha := rfl), ?_⟩; simp (maxSteps := 4000000) only [go_sem, q1]) | (refine ⟨_, .given (hf := h15) (hd := rfl) (ha := rfl), ?_⟩; simp (maxSteps := 4000000) only [go_sem, q1]))); refine hK _ ?_; clear hK K) | refine walkL_nil ?_ | refine walkL_ret ?_ | refine walkL_exit ?_ | refine blockA_here ?_ | refine blockA_other rfl ?_ | refine blockA_ret ?_ | refine blockA_normal ?_ | refine thenA_ret ?_ | refine thenA_exit ?_ | refine thenA_normal ?_)
    simp (maxSteps := 4000000) only [go_sem]
  case false =>
  cases q2 : isBurnB p burn
  case false =>
    rw [Plant.cells] at h14 h21
    rw [q2] at h21
    refine fn_walk 122 Try.call12 Try.func12 rfl (by decide) fun J => ?_
    simp (maxSteps := 4000000) only [go_sem, St.start, Try.ntmps12, Try.results12, Plant.cells]
    repeat (first | refine walkL_true rfl ?_ | refine walkL_false rfl ?_ | refine walkL_seq ?_ | refine walkL_skip ?_ | refine walkL_block ?_ | (refine walkL_region fun K hK => ?_; simp (maxSteps := 4000000) only [go_sem, q1]; (repeat (first | (refine ⟨_, .lent (hf := h14) (hd := rfl) (hr := rfl), ?_⟩; simp (maxSteps := 4000000) only [go_sem, q1]) | (refine ⟨_, .lent (hf := h21) (hd := rfl) (hr := rfl), ?_⟩; simp (maxSteps := 4000000) only [go_sem, q1]) | (refine ⟨_, .lent (hf := h15) (hd := rfl) (hr := rfl), ?_⟩; simp (maxSteps := 4000000) only [go_sem, q1]) | (refine ⟨_, .given (hf := h14) (hd := rfl) (ha := rfl), ?_⟩; simp (maxSteps := 4000000) only [go_sem, q1]) | (refine ⟨_, .given (hf := h21) (hd := rfl) (ha := rfl), ?_⟩; simp (maxSteps := 4000000) only [go_sem, q1]) | (refine ⟨_, .given (hf := h15) (hd := rfl) (ha := rfl), ?_⟩; simp (maxSteps := 4000000) only [go_sem, q1]))); refine hK _ ?_; clear hK K) | refine walkL_nil ?_ | refine walkL_ret ?_ | refine walkL_exit ?_ | refine blockA_here ?_ | refine blockA_other rfl ?_ | refine blockA_ret ?_ | refine blockA_normal ?_ | refine thenA_ret ?_ | refine thenA_exit ?_ | refine thenA_normal ?_)
    simp (maxSteps := 4000000) only [go_sem]
  case true =>
  rw [q2] at h21
  cases q3 : weB p.scen p.seen m
  case false =>
    rw [Plant.cells] at h14 h21 h29
    rw [q3] at h29
    refine fn_walk 122 Try.call12 Try.func12 rfl (by decide) fun J => ?_
    simp (maxSteps := 4000000) only [go_sem, St.start, Try.ntmps12, Try.results12, Plant.cells]
    repeat (first | refine walkL_true rfl ?_ | refine walkL_false rfl ?_ | refine walkL_seq ?_ | refine walkL_skip ?_ | refine walkL_block ?_ | (refine walkL_region fun K hK => ?_; simp (maxSteps := 4000000) only [go_sem, q1]; (repeat (first | (refine ⟨_, .lent (hf := h14) (hd := rfl) (hr := rfl), ?_⟩; simp (maxSteps := 4000000) only [go_sem, q1]) | (refine ⟨_, .lent (hf := h21) (hd := rfl) (hr := rfl), ?_⟩; simp (maxSteps := 4000000) only [go_sem, q1]) | (refine ⟨_, .lent (hf := h29) (hd := rfl) (hr := rfl), ?_⟩; simp (maxSteps := 4000000) only [go_sem, q1]) | (refine ⟨_, .lent (hf := h15) (hd := rfl) (hr := rfl), ?_⟩; simp (maxSteps := 4000000) only [go_sem, q1]) | (refine ⟨_, .given (hf := h14) (hd := rfl) (ha := rfl), ?_⟩; simp (maxSteps := 4000000) only [go_sem, q1]) | (refine ⟨_, .given (hf := h21) (hd := rfl) (ha := rfl), ?_⟩; simp (maxSteps := 4000000) only [go_sem, q1]) | (refine ⟨_, .given (hf := h29) (hd := rfl) (ha := rfl), ?_⟩; simp (maxSteps := 4000000) only [go_sem, q1]) | (refine ⟨_, .given (hf := h15) (hd := rfl) (ha := rfl), ?_⟩; simp (maxSteps := 4000000) only [go_sem, q1]))); refine hK _ ?_; clear hK K) | refine walkL_nil ?_ | refine walkL_ret ?_ | refine walkL_exit ?_ | refine blockA_here ?_ | refine blockA_other rfl ?_ | refine blockA_ret ?_ | refine blockA_normal ?_ | refine thenA_ret ?_ | refine thenA_exit ?_ | refine thenA_normal ?_)
    simp (maxSteps := 4000000) only [go_sem]
  case true =>
  rw [q3] at h29
  have hw := we_grid hg q3
  have hlen := ((we_iff hg).1 q3).1
  have hz' := hz
  rw [← openE_nil] at hz'
  obtain ⟨H, hgo, hH'⟩ := grid_ok hz'
  have hHe := hgo.hours
  obtain ⟨eH, eH1, eH2⟩ := grid_lens hg
  have hpe : (gridOf p).p = p := rfl
  obtain ⟨r1, r2, l, hl, r3, r4⟩ := hardF_range hgo burn
  rw [hpe] at r3 r4
  have h22 := f22 p burn hs hbl
  have h38 := f38 p burn hs hbl
  rw [lastsP_good hz q2] at h22
  rw [levels_good hz q2 hw] at h30
  have h37 := f37 p (levsTo p burn m m.length) (by rw [levs_len]; omega)
  rw [hours_levs] at h37
  have hge : (hardF (gridOf p) burn).2 ≤ lastsW p burn m := by
    obtain ⟨l1, hl1, hlv⟩ := lv_worst hg q2 q3
    have hh := hard_le (gridOf p) burn l1 hl1
    rw [hpe] at hh
    obtain ⟨s1, s2, _⟩ := lasts_spec p burn (leastW p l1)
    have hll1 := (scen_ok hg hl1).1
    have hlen1 := least_len p l1
    have := lasts_ge (p := p) (burn := burn) (m := m) (k := lastsW p burn (leastW p l1)) (by omega) fun j hj => by
      have := s2 j hj
      have := hlv (j + 1) (by omega)
      omega
    omega
  have ew : worstP p burn = if (hardF (gridOf p) burn).2 = (gridOf p).hours then ([], 3) else ((hardF (gridOf p) burn).1, 0) := by
    unfold worstP
    rw [open_burn hz, q2, if_pos rfl, if_pos rfl]
  rw [ew, eH, r3] at h38
  obtain ⟨n, hn⟩ : ∃ n, n = (hardF (gridOf p) burn).2 := ⟨_, rfl⟩
  rw [← hn] at h22 h38 hge r1 r2 r4
  obtain ⟨L, eL⟩ : ∃ L, L = lostTo p burn m m.length := ⟨_, rfl⟩
  rw [← eL] at h30
  have hll := (scen_ok hg hl).1
  have hlen2 := least_len p l
  have q4 : ((m.length : Int) != m.length) = false := by simp
  have q5 : decide (n < 0) = false := by simp; omega
  have q6 : decide ((lastsW p burn m : Int) < n) = false := by simp; omega
  by_cases hfin : n = p.sun.length
  · rw [if_pos hfin] at h38
    have q7 : decide (n ≥ (m.length : Int)) = true := by simp; omega
    have q8 : (n == (m.length : Int)) = true := by simp; omega
    rw [Plant.cells] at h14 h21 h29 h30 h22 h38 h37
    refine fn_walk 122 Try.call12 Try.func12 rfl (by decide) fun J => ?_
    simp (maxSteps := 4000000) only [go_sem, St.start, Try.ntmps12, Try.results12, Plant.cells]
    repeat (first | refine walkL_true rfl ?_ | refine walkL_false rfl ?_ | refine walkL_seq ?_ | refine walkL_skip ?_ | refine walkL_block ?_ | (refine walkL_region fun K hK => ?_; simp (maxSteps := 4000000) only [go_sem, q1, q4, q5, q6, q7, q8, levs_len]; (repeat (first | (refine ⟨_, .lent (hf := h14) (hd := rfl) (hr := rfl), ?_⟩; simp (maxSteps := 4000000) only [go_sem, q1, q4, q5, q6, q7, q8, levs_len]) | (refine ⟨_, .lent (hf := h21) (hd := rfl) (hr := rfl), ?_⟩; simp (maxSteps := 4000000) only [go_sem, q1, q4, q5, q6, q7, q8, levs_len]) | (refine ⟨_, .lent (hf := h29) (hd := rfl) (hr := rfl), ?_⟩; simp (maxSteps := 4000000) only [go_sem, q1, q4, q5, q6, q7, q8, levs_len]) | (refine ⟨_, .lent (hf := h15) (hd := rfl) (hr := rfl), ?_⟩; simp (maxSteps := 4000000) only [go_sem, q1, q4, q5, q6, q7, q8, levs_len]) | (refine ⟨_, .lent (hf := h30) (hd := rfl) (hr := rfl), ?_⟩; simp (maxSteps := 4000000) only [go_sem, q1, q4, q5, q6, q7, q8, levs_len]) | (refine ⟨_, .lent (hf := h22) (hd := rfl) (hr := rfl), ?_⟩; simp (maxSteps := 4000000) only [go_sem, q1, q4, q5, q6, q7, q8, levs_len]) | (refine ⟨_, .lent (hf := h37) (hd := rfl) (hr := rfl), ?_⟩; simp (maxSteps := 4000000) only [go_sem, q1, q4, q5, q6, q7, q8, levs_len]) | (refine ⟨_, .lent (hf := h38) (hd := rfl) (hr := rfl), ?_⟩; simp (maxSteps := 4000000) only [go_sem, q1, q4, q5, q6, q7, q8, levs_len]) | (refine ⟨_, .given (hf := h14) (hd := rfl) (ha := rfl), ?_⟩; simp (maxSteps := 4000000) only [go_sem, q1, q4, q5, q6, q7, q8, levs_len]) | (refine ⟨_, .given (hf := h21) (hd := rfl) (ha := rfl), ?_⟩; simp (maxSteps := 4000000) only [go_sem, q1, q4, q5, q6, q7, q8, levs_len]) | (refine ⟨_, .given (hf := h29) (hd := rfl) (ha := rfl), ?_⟩; simp (maxSteps := 4000000) only [go_sem, q1, q4, q5, q6, q7, q8, levs_len]) | (refine ⟨_, .given (hf := h15) (hd := rfl) (ha := rfl), ?_⟩; simp (maxSteps := 4000000) only [go_sem, q1, q4, q5, q6, q7, q8, levs_len]) | (refine ⟨_, .given (hf := h30) (hd := rfl) (ha := rfl), ?_⟩; simp (maxSteps := 4000000) only [go_sem, q1, q4, q5, q6, q7, q8, levs_len]) | (refine ⟨_, .given (hf := h22) (hd := rfl) (ha := rfl), ?_⟩; simp (maxSteps := 4000000) only [go_sem, q1, q4, q5, q6, q7, q8, levs_len]) | (refine ⟨_, .given (hf := h37) (hd := rfl) (ha := rfl), ?_⟩; simp (maxSteps := 4000000) only [go_sem, q1, q4, q5, q6, q7, q8, levs_len]) | (refine ⟨_, .given (hf := h38) (hd := rfl) (ha := rfl), ?_⟩; simp (maxSteps := 4000000) only [go_sem, q1, q4, q5, q6, q7, q8, levs_len]))); refine hK _ ?_; clear hK K) | refine walkL_nil ?_ | refine walkL_ret ?_ | refine walkL_exit ?_ | refine blockA_here ?_ | refine blockA_other rfl ?_ | refine blockA_ret ?_ | refine blockA_normal ?_ | refine thenA_ret ?_ | refine thenA_exit ?_ | refine thenA_normal ?_)
    simp (maxSteps := 4000000) only [go_sem]
  · rw [if_neg hfin] at h38
    have q7 : decide (n ≥ (m.length : Int)) = false := by simp; omega
    have hwl := least_we hg hl
    have h29b := f29 p (leastW p l) hg.fore hg.sights (by omega)
    rw [hwl] at h29b
    have h30b := f30 p burn (leastW p l) hs hbl
    rw [levels_good hz q2 (we_grid hg hwl)] at h30b
    have h37b := f37 p (levsTo p burn (leastW p l) (leastW p l).length) (by rw [levs_len]; omega)
    rw [hours_levs, ← r4] at h37b
    obtain ⟨L2, eL2⟩ : ∃ L, L = lostTo p burn (leastW p l) (leastW p l).length := ⟨_, rfl⟩
    rw [← eL2] at h30b
    obtain ⟨wl, ewl⟩ : ∃ w, w = leastW p l := ⟨_, rfl⟩
    rw [← ewl] at h38 h29b h30b h37b
    rw [Plant.cells] at h14 h21 h29 h30 h22 h38 h37 h29b h30b h37b
    have q9 : (n == n) = true := by simp
    refine fn_walk 122 Try.call12 Try.func12 rfl (by decide) fun J => ?_
    simp (maxSteps := 4000000) only [go_sem, St.start, Try.ntmps12, Try.results12, Plant.cells]
    repeat (first | refine walkL_true rfl ?_ | refine walkL_false rfl ?_ | refine walkL_seq ?_ | refine walkL_skip ?_ | refine walkL_block ?_ | (refine walkL_region fun K hK => ?_; simp (maxSteps := 4000000) only [go_sem, q1, q4, q5, q6, q7, q9, levs_len]; (repeat (first | (refine ⟨_, .lent (hf := h14) (hd := rfl) (hr := rfl), ?_⟩; simp (maxSteps := 4000000) only [go_sem, q1, q4, q5, q6, q7, q9, levs_len]) | (refine ⟨_, .lent (hf := h21) (hd := rfl) (hr := rfl), ?_⟩; simp (maxSteps := 4000000) only [go_sem, q1, q4, q5, q6, q7, q9, levs_len]) | (refine ⟨_, .lent (hf := h29) (hd := rfl) (hr := rfl), ?_⟩; simp (maxSteps := 4000000) only [go_sem, q1, q4, q5, q6, q7, q9, levs_len]) | (refine ⟨_, .lent (hf := h15) (hd := rfl) (hr := rfl), ?_⟩; simp (maxSteps := 4000000) only [go_sem, q1, q4, q5, q6, q7, q9, levs_len]) | (refine ⟨_, .lent (hf := h30) (hd := rfl) (hr := rfl), ?_⟩; simp (maxSteps := 4000000) only [go_sem, q1, q4, q5, q6, q7, q9, levs_len]) | (refine ⟨_, .lent (hf := h22) (hd := rfl) (hr := rfl), ?_⟩; simp (maxSteps := 4000000) only [go_sem, q1, q4, q5, q6, q7, q9, levs_len]) | (refine ⟨_, .lent (hf := h37) (hd := rfl) (hr := rfl), ?_⟩; simp (maxSteps := 4000000) only [go_sem, q1, q4, q5, q6, q7, q9, levs_len]) | (refine ⟨_, .lent (hf := h38) (hd := rfl) (hr := rfl), ?_⟩; simp (maxSteps := 4000000) only [go_sem, q1, q4, q5, q6, q7, q9, levs_len]) | (refine ⟨_, .lent (hf := h29b) (hd := rfl) (hr := rfl), ?_⟩; simp (maxSteps := 4000000) only [go_sem, q1, q4, q5, q6, q7, q9, levs_len]) | (refine ⟨_, .lent (hf := h30b) (hd := rfl) (hr := rfl), ?_⟩; simp (maxSteps := 4000000) only [go_sem, q1, q4, q5, q6, q7, q9, levs_len]) | (refine ⟨_, .lent (hf := h37b) (hd := rfl) (hr := rfl), ?_⟩; simp (maxSteps := 4000000) only [go_sem, q1, q4, q5, q6, q7, q9, levs_len]) | (refine ⟨_, .given (hf := h14) (hd := rfl) (ha := rfl), ?_⟩; simp (maxSteps := 4000000) only [go_sem, q1, q4, q5, q6, q7, q9, levs_len]) | (refine ⟨_, .given (hf := h21) (hd := rfl) (ha := rfl), ?_⟩; simp (maxSteps := 4000000) only [go_sem, q1, q4, q5, q6, q7, q9, levs_len]) | (refine ⟨_, .given (hf := h29) (hd := rfl) (ha := rfl), ?_⟩; simp (maxSteps := 4000000) only [go_sem, q1, q4, q5, q6, q7, q9, levs_len]) | (refine ⟨_, .given (hf := h15) (hd := rfl) (ha := rfl), ?_⟩; simp (maxSteps := 4000000) only [go_sem, q1, q4, q5, q6, q7, q9, levs_len]) | (refine ⟨_, .given (hf := h30) (hd := rfl) (ha := rfl), ?_⟩; simp (maxSteps := 4000000) only [go_sem, q1, q4, q5, q6, q7, q9, levs_len]) | (refine ⟨_, .given (hf := h22) (hd := rfl) (ha := rfl), ?_⟩; simp (maxSteps := 4000000) only [go_sem, q1, q4, q5, q6, q7, q9, levs_len]) | (refine ⟨_, .given (hf := h37) (hd := rfl) (ha := rfl), ?_⟩; simp (maxSteps := 4000000) only [go_sem, q1, q4, q5, q6, q7, q9, levs_len]) | (refine ⟨_, .given (hf := h38) (hd := rfl) (ha := rfl), ?_⟩; simp (maxSteps := 4000000) only [go_sem, q1, q4, q5, q6, q7, q9, levs_len]) | (refine ⟨_, .given (hf := h29b) (hd := rfl) (ha := rfl), ?_⟩; simp (maxSteps := 4000000) only [go_sem, q1, q4, q5, q6, q7, q9, levs_len]) | (refine ⟨_, .given (hf := h30b) (hd := rfl) (ha := rfl), ?_⟩; simp (maxSteps := 4000000) only [go_sem, q1, q4, q5, q6, q7, q9, levs_len]) | (refine ⟨_, .given (hf := h37b) (hd := rfl) (ha := rfl), ?_⟩; simp (maxSteps := 4000000) only [go_sem, q1, q4, q5, q6, q7, q9, levs_len]))); refine hK _ ?_; clear hK K) | refine walkL_nil ?_ | refine walkL_ret ?_ | refine walkL_exit ?_ | refine blockA_here ?_ | refine blockA_other rfl ?_ | refine blockA_ret ?_ | refine blockA_normal ?_ | refine thenA_ret ?_ | refine thenA_exit ?_ | refine thenA_normal ?_)
    simp (maxSteps := 4000000) only [go_sem]
end Go.Ab
namespace Go.Ab
open Go.RowKit Go.Proofs
set_option maxHeartbeats 8000000
set_option maxRecDepth 20000
attribute [local irreducible] WalkL Walk

/-! ### The document's skies -/

def lowF (p : Plant) (j : Int) (h : Hour) : Nat → Sky
  | 0 => ⟨h.wind.lo, h.rain.hi, h.temp.lo⟩
  | k + 1 => if yieldW p j ⟨h.wind.lo + k, h.rain.hi, h.temp.lo⟩ < yieldW p j (lowF p j h k) then ⟨h.wind.lo + k, h.rain.hi, h.temp.lo⟩ else lowF p j h k
def highF (p : Plant) (j : Int) (h : Hour) : Nat → Sky
  | 0 => ⟨h.wind.lo, h.rain.lo, h.temp.lo⟩
  | k + 1 => if yieldW p j ⟨h.wind.lo + k, h.rain.lo, h.temp.lo⟩ > yieldW p j (highF p j h k) then ⟨h.wind.lo + k, h.rain.lo, h.temp.lo⟩ else highF p j h k
theorem lowF_parts (p : Plant) (j : Int) (h : Hour) : ∀ k, (lowF p j h k).rain = h.rain.hi ∧ (lowF p j h k).temp = h.temp.lo
  | 0 => ⟨rfl, rfl⟩
  | k + 1 => by rw [lowF]; split; exact ⟨rfl, rfl⟩; exact lowF_parts p j h k
theorem highF_parts (p : Plant) (j : Int) (h : Hour) : ∀ k, (highF p j h k).rain = h.rain.lo ∧ (highF p j h k).temp = h.temp.lo
  | 0 => ⟨rfl, rfl⟩
  | k + 1 => by rw [highF]; split; exact ⟨rfl, rfl⟩; exact highF_parts p j h k

def windsN (h : Hour) : Nat := (h.wind.hi - h.wind.lo + 1).toNat
def skiesP (p : Plant) (l : List Hour) (j : Int) : Sky × Sky := match p.seen.find? (fun s => s.hour == j) with
  | some s => (s.sky, s.sky)
  | none => (lowF p j (hourAt l j) (windsN (hourAt l j)), highF p j (hourAt l j) (windsN (hourAt l j)))

theorem f70 (p : Plant) (i j : Int) (l : List Hour) (hg : PlantGood p) (hi : 0 ≤ i) (hl : p.scen[i.toNat]? = some l) (hj : 0 ≤ j ∧ j.toNat < p.sun.length) :
    Fn Try.prog 70 [.agg p.cells, .i i, .i j] (.tup [.agg (skiesP p l j).1.row, .agg (skiesP p l j).2.row]) := by
  obtain ⟨s1, s2, s3⟩ := sights_spec hg.sights
  have hll := hg.fore.len l (List.mem_of_getElem? hl)
  have hsun := hg.sun
  have g1 := scenRows_at hl
  obtain ⟨h, eh⟩ : ∃ h, h = hourAt l j := ⟨_, rfl⟩
  have gh := hourAt_get (l := l) (i := j) ⟨hj.1, by omega⟩
  have hb := hourB_iff.1 (hg.fore.hour l (List.mem_of_getElem? hl) _ (List.mem_of_getElem? gh))
  have g2 := hourRows_at gh
  rw [skiesP]
  rw [← eh] at hb g2 ⊢
  refine fn_walk 108 Try.call70 Try.func70 rfl (by decide) fun J => ?_
  simp (maxSteps := 4000000) only [go_sem, St.start, Try.ntmps70, Try.results70, Plant.cells]
  repeat (first | refine walkL_seq ?_ | refine walkL_skip ?_ | refine walkL_block ?_ | (refine walkL_region fun K hK => ?_; simp (maxSteps := 4000000) only [go_sem]; refine hK _ ?_; clear hK K) | refine walkL_nil ?_ | refine walkL_ret ?_ | refine walkL_exit ?_ | refine blockA_here ?_ | refine blockA_other rfl ?_ | refine blockA_ret ?_ | refine blockA_normal ?_ | refine thenA_ret ?_ | refine thenA_exit ?_ | refine thenA_normal ?_)
  refine walkL_loopS (fun (k : Nat) => [(8, .d (.i k))]) (fun _ => []) (fun k => k ≤ p.seen.length ∧ p.seen.find? (fun s => s.hour == j) = (p.seen.drop k).find? (fun s => s.hour == j)) (fun k => p.seen.length - k) 0 ?_ ⟨Nat.zero_le _, rfl⟩ ?_
  · simp (maxSteps := 4000000) only [go_sem]
    refine weak_of [] ?_ ?_ rfl rfl <;> simp [lessT, lessM, lessB, AV.less]
  · intro k ⟨hk, hf⟩
    simp (maxSteps := 4000000) only [go_sem]
    repeat (first | refine walkL_seq ?_ | refine walkL_skip ?_ | refine walkL_block ?_ | (refine walkL_region fun K hK => ?_; simp (maxSteps := 4000000) only [go_sem]; refine hK _ ?_; clear hK K) | refine walkL_nil ?_ | refine walkL_ret ?_ | refine walkL_exit ?_ | refine blockA_here ?_ | refine blockA_other rfl ?_ | refine blockA_ret ?_ | refine blockA_normal ?_ | refine thenA_ret ?_ | refine thenA_exit ?_ | refine thenA_normal ?_)
    refine walkL_cond rfl (fun hb => ?_) (fun hb => ?_)
    · have hlt : k < p.seen.length := by simpa using hb
      have hw : IntKind.i64.wrap ((k : Int) + 1) = ((k + 1 : Nat) : Int) := by rw [wr_small (by omega)]; simp
      obtain ⟨s, hx⟩ : ∃ s, p.seen[k]? = some s := ⟨_, List.getElem?_eq_getElem hlt⟩
      have g3 := sightRows_at hx
      rw [drop_get hx, List.find?_cons] at hf
      cases q : (s.hour == j)
      · rw [q] at hf
        repeat (first | refine walkL_true rfl ?_ | refine walkL_false rfl ?_ | refine walkL_seq ?_ | refine walkL_skip ?_ | refine walkL_block ?_ | (refine walkL_region fun K hK => ?_; simp (maxSteps := 4000000) only [go_sem, g3, q, hw, Sight.row]; refine hK _ ?_; clear hK K) | refine walkL_nil ?_ | refine walkL_ret ?_ | refine walkL_exit ?_ | refine blockA_here ?_ | refine blockA_other rfl ?_ | refine blockA_ret ?_ | refine blockA_normal ?_ | refine thenA_ret ?_ | refine thenA_exit ?_ | refine thenA_normal ?_)
        refine ⟨rfl, k + 1, ?_, ⟨hlt, hf⟩, by omega⟩
        refine weak_of [] ?_ ?_ rfl rfl <;> simp [lessT, lessM, lessB, AV.less]
      · rw [q] at hf
        rw [hf]
        repeat (first | refine walkL_true rfl ?_ | refine walkL_false rfl ?_ | refine walkL_seq ?_ | refine walkL_skip ?_ | refine walkL_block ?_ | (refine walkL_region fun K hK => ?_; simp (maxSteps := 4000000) only [go_sem, g3, q, Sight.row]; refine hK _ ?_; clear hK K) | (refine walkL_drawn (by kernel_rfl) (by kernel_rfl) fun K hK => ?_; simp (maxSteps := 4000000) only [go_sem, g3, q, Sight.row]; refine ⟨by kernel_rfl, hK _ ?_⟩; clear hK K) | refine walkL_nil ?_ | refine walkL_ret ?_ | refine walkL_exit ?_ | refine blockA_here ?_ | refine blockA_other rfl ?_ | refine blockA_ret ?_ | refine blockA_normal ?_ | refine thenA_ret ?_ | refine thenA_exit ?_ | refine thenA_normal ?_)
        simp (maxSteps := 4000000) only [go_sem, Sky.row]
    · have he : k = p.seen.length := by (have : ¬ k < p.seen.length := by simpa using hb); omega
      subst he
      rw [List.drop_length, List.find?_nil] at hf
      rw [hf]
      rename_i hbo
      obtain ⟨N, eN⟩ : ∃ N, N = windsN h := ⟨_, rfl⟩
      have hN : (N : Int) = h.wind.hi - h.wind.lo + 1 := by unfold windsN at eN; omega
      rw [← eN]
      repeat (first | refine walkL_seq ?_ | refine walkL_skip ?_ | refine walkL_block ?_ | (refine walkL_region fun K hK => ?_; simp (maxSteps := 4000000) only [go_sem, g1, g2, hi, hj.1, Hour.row]; refine hK _ ?_; clear hK K) | refine walkL_nil ?_ | refine walkL_ret ?_ | refine walkL_exit ?_ | refine blockA_here ?_ | refine blockA_other rfl ?_ | refine blockA_ret ?_ | refine blockA_normal ?_ | refine thenA_ret ?_ | refine thenA_exit ?_ | refine thenA_normal ?_)
      refine walkL_loopS (fun (k : Nat) => [(10, .d (.i (h.wind.lo + k))), (11, .undef), (12, .undef)]) (fun k => [(6, some (.box [.d (.i (lowF p j h k).wind), .d (.i h.rain.hi), .d (.i h.temp.lo)])), (7, some (.box [.d (.i (highF p j h k).wind), .d (.i h.rain.lo), .d (.i h.temp.lo)]))]) (fun k => k ≤ N) (fun k => N - k) 0 ?_ (Nat.zero_le _) ?_
      · simp (maxSteps := 4000000) only [go_sem]
        refine weak_of [] ?_ ?_ rfl rfl <;> simp [lessT, lessM, lessB, AV.less]
        all_goals first | done | rfl | exact ⟨rfl, rfl⟩
      · intro k hk
        simp (maxSteps := 4000000) only [go_sem]
        repeat (first | refine walkL_seq ?_ | refine walkL_skip ?_ | refine walkL_block ?_ | (refine walkL_region fun K hK => ?_; simp (maxSteps := 4000000) only [go_sem]; refine hK _ ?_; clear hK K) | refine walkL_nil ?_ | refine walkL_ret ?_ | refine walkL_exit ?_ | refine blockA_here ?_ | refine blockA_other rfl ?_ | refine blockA_ret ?_ | refine blockA_normal ?_ | refine thenA_ret ?_ | refine thenA_exit ?_ | refine thenA_normal ?_)
        refine walkL_cond rfl (fun hb => ?_) (fun hb => ?_)
        · have hb : h.wind.lo + (k : Int) ≤ h.wind.hi := by simpa using hb
          have hw : IntKind.i64.wrap (h.wind.lo + (k : Int) + 1) = h.wind.lo + ((k + 1 : Nat) : Int) := by rw [wr_small (by omega)]; omega
          obtain ⟨v1, v2⟩ := lowF_parts p j h k
          obtain ⟨v3, v4⟩ := highF_parts p j h k
          have y1 := f31 p j ⟨h.wind.lo + k, h.rain.hi, h.temp.lo⟩ hj
          have y2 := f31 p j (lowF p j h k) hj
          have y3 := f31 p j ⟨h.wind.lo + k, h.rain.lo, h.temp.lo⟩ hj
          have y4 := f31 p j (highF p j h k) hj
          rw [Plant.cells, Sky.row] at y1 y2 y3 y4
          dsimp only at y1 y3
          rw [v1, v2] at y2
          rw [v3, v4] at y4
          have e1 : (lowF p j h (k + 1)).wind = bif decide (yieldW p j ⟨h.wind.lo + k, h.rain.hi, h.temp.lo⟩ < yieldW p j (lowF p j h k)) then h.wind.lo + k else (lowF p j h k).wind := by
            rw [lowF, Bool.cond_decide]; split <;> rfl
          have e2 : (highF p j h (k + 1)).wind = bif decide (yieldW p j ⟨h.wind.lo + k, h.rain.lo, h.temp.lo⟩ > yieldW p j (highF p j h k)) then h.wind.lo + k else (highF p j h k).wind := by
            rw [highF, Bool.cond_decide]; split <;> rfl
          obtain ⟨x1, hx1⟩ : ∃ x, x = (lowF p j h k).wind := ⟨_, rfl⟩
          obtain ⟨x2, hx2⟩ : ∃ x, x = (highF p j h k).wind := ⟨_, rfl⟩
          obtain ⟨z1, hz1⟩ : ∃ x, x = yieldW p j ⟨h.wind.lo + k, h.rain.hi, h.temp.lo⟩ := ⟨_, rfl⟩
          obtain ⟨z2, hz2⟩ : ∃ x, x = yieldW p j (lowF p j h k) := ⟨_, rfl⟩
          obtain ⟨z3, hz3⟩ : ∃ x, x = yieldW p j ⟨h.wind.lo + k, h.rain.lo, h.temp.lo⟩ := ⟨_, rfl⟩
          obtain ⟨z4, hz4⟩ : ∃ x, x = yieldW p j (highF p j h k) := ⟨_, rfl⟩
          rw [← hx1, ← hz1, ← hz2] at e1
          rw [← hx2, ← hz3, ← hz4] at e2
          rw [← hz1] at y1
          rw [← hx1, ← hz2] at y2
          rw [← hz3] at y3
          rw [← hx2, ← hz4] at y4
          rw [← hx1, ← hx2]
          cases q1 : decide (z1 < z2) <;> cases q2 : decide (z3 > z4)
          all_goals
            simp only [q1, cond_true, cond_false] at e1
            simp only [q2, cond_true, cond_false] at e2
            repeat (first | refine walkL_true rfl ?_ | refine walkL_false rfl ?_ | refine walkL_seq ?_ | refine walkL_skip ?_ | refine walkL_block ?_ | (refine walkL_region fun K hK => ?_; simp (maxSteps := 4000000) only [go_sem, q1, q2, hw]; (repeat (first | (refine ⟨_, .lent (hf := y1) (hd := rfl) (hr := rfl), ?_⟩; simp (maxSteps := 4000000) only [go_sem, q1, q2, hw]) | (refine ⟨_, .lent (hf := y2) (hd := rfl) (hr := rfl), ?_⟩; simp (maxSteps := 4000000) only [go_sem, q1, q2, hw]) | (refine ⟨_, .lent (hf := y3) (hd := rfl) (hr := rfl), ?_⟩; simp (maxSteps := 4000000) only [go_sem, q1, q2, hw]) | (refine ⟨_, .lent (hf := y4) (hd := rfl) (hr := rfl), ?_⟩; simp (maxSteps := 4000000) only [go_sem, q1, q2, hw]) | (refine ⟨_, .given (hf := y1) (hd := rfl) (ha := rfl), ?_⟩; simp (maxSteps := 4000000) only [go_sem, q1, q2, hw]) | (refine ⟨_, .given (hf := y2) (hd := rfl) (ha := rfl), ?_⟩; simp (maxSteps := 4000000) only [go_sem, q1, q2, hw]) | (refine ⟨_, .given (hf := y3) (hd := rfl) (ha := rfl), ?_⟩; simp (maxSteps := 4000000) only [go_sem, q1, q2, hw]) | (refine ⟨_, .given (hf := y4) (hd := rfl) (ha := rfl), ?_⟩; simp (maxSteps := 4000000) only [go_sem, q1, q2, hw]))); refine hK _ ?_; clear hK K) | (refine walkL_drawn (by kernel_rfl) (by kernel_rfl) fun K hK => ?_; simp (maxSteps := 4000000) only [go_sem, q1, q2, hw]; (repeat (first | (refine ⟨_, .fn (hf := y1) (hd := rfl) (hr := .inl rfl), ?_⟩; simp (maxSteps := 4000000) only [go_sem, q1, q2, hw]) | (refine ⟨_, .fn (hf := y2) (hd := rfl) (hr := .inl rfl), ?_⟩; simp (maxSteps := 4000000) only [go_sem, q1, q2, hw]) | (refine ⟨_, .fn (hf := y3) (hd := rfl) (hr := .inl rfl), ?_⟩; simp (maxSteps := 4000000) only [go_sem, q1, q2, hw]) | (refine ⟨_, .fn (hf := y4) (hd := rfl) (hr := .inl rfl), ?_⟩; simp (maxSteps := 4000000) only [go_sem, q1, q2, hw]))); refine ⟨by kernel_rfl, hK _ ?_⟩; clear hK K) | refine walkL_nil ?_ | refine walkL_ret ?_ | refine walkL_exit ?_ | refine blockA_here ?_ | refine blockA_other rfl ?_ | refine blockA_ret ?_ | refine blockA_normal ?_ | refine thenA_ret ?_ | refine thenA_exit ?_ | refine thenA_normal ?_)
            refine ⟨rfl, k + 1, ?_, by omega, by omega⟩
            rw [e1, e2]
            refine weak_of [] ?_ ?_ rfl rfl <;> simp [lessT, lessM, lessB, AV.less]
            all_goals first | done | rfl
        · have hb : ¬ h.wind.lo + (k : Int) ≤ h.wind.hi := by simpa using hb
          have he : k = N := by omega
          subst he
          obtain ⟨v1, v2⟩ := lowF_parts p j h k
          obtain ⟨v3, v4⟩ := highF_parts p j h k
          repeat (first | refine walkL_true rfl ?_ | refine walkL_false rfl ?_ | refine walkL_seq ?_ | refine walkL_skip ?_ | refine walkL_block ?_ | (refine walkL_region fun K hK => ?_; simp (maxSteps := 4000000) only [go_sem]; refine hK _ ?_; clear hK K) | (refine walkL_drawn (by kernel_rfl) (by kernel_rfl) fun K hK => ?_; simp (maxSteps := 4000000) only [go_sem]; refine ⟨by kernel_rfl, hK _ ?_⟩; clear hK K) | refine walkL_nil ?_ | refine walkL_ret ?_ | refine walkL_exit ?_ | refine blockA_here ?_ | refine blockA_other rfl ?_ | refine blockA_ret ?_ | refine blockA_normal ?_ | refine thenA_ret ?_ | refine thenA_exit ?_ | refine thenA_normal ?_)
          simp (maxSteps := 4000000) only [go_sem, Sky.row, v1, v2, v3, v4]
end Go.Ab
namespace Go.Ab
open Go.RowKit Go.Proofs
set_option maxHeartbeats 8000000
set_option maxRecDepth 20000
attribute [local irreducible] WalkL Walk

/-! ### The document's least yields are those of the worst sky -/

theorem lowF_spec (p : Plant) (j : Int) (h : Hour) : ∀ k, (∀ i : Nat, i < k → yieldW p j (lowF p j h k) ≤ yieldW p j ⟨h.wind.lo + i, h.rain.hi, h.temp.lo⟩) ∧ ∃ i : Nat, i < k + 1 ∧ (i < k ∨ i = 0) ∧ lowF p j h k = ⟨h.wind.lo + i, h.rain.hi, h.temp.lo⟩
  | 0 => ⟨fun i hi => by omega, 0, by omega, Or.inr rfl, by simp [lowF]⟩
  | k + 1 => by
    obtain ⟨h1, i, h2, h3, h4⟩ := lowF_spec p j h k
    rw [lowF]
    by_cases hc : yieldW p j ⟨h.wind.lo + k, h.rain.hi, h.temp.lo⟩ < yieldW p j (lowF p j h k)
    · rw [if_pos hc]
      refine ⟨fun i hi => ?_, k, by omega, by omega, rfl⟩
      rcases Nat.lt_succ_iff_lt_or_eq.1 hi with h5 | rfl
      · have := h1 i h5; omega
      · exact Int.le_refl _
    · rw [if_neg hc]
      refine ⟨fun i hi => ?_, i, by omega, by omega, h4⟩
      rcases Nat.lt_succ_iff_lt_or_eq.1 hi with h5 | rfl
      · exact h1 i h5
      · omega

theorem low_worst {p : Plant} (hg : PlantGood p) {h : Hour} (hh : hourB h = true) (j : Int) : yieldW p j (lowF p j h (windsN h)) = yieldW p j (worstW p h) ∧ insideB (lowF p j h (windsN h)) h = true := by
  have hb := hourB_iff.1 hh
  have hN : (windsN h : Int) = h.wind.hi - h.wind.lo + 1 := by unfold windsN; omega
  obtain ⟨h1, i, h2, h3, h4⟩ := lowF_spec p j h (windsN h)
  have hin : insideB (lowF p j h (windsN h)) h = true := by
    rw [h4, inside_iff]
    dsimp only
    omega
  refine ⟨?_, hin⟩
  have hw := worst_in (p := p) hh
  have hwi := inside_iff.1 hw
  have e1 := yield_eq hg (skyOk_of hin hh) j
  have e2 := yield_eq hg (skyOk_of hw hh) j
  have e3 := worst_least hg hh hin j
  have e4 := h1 ((worstW p h).wind - h.wind.lo).toNat (by omega)
  have e5 : (⟨h.wind.lo + (((worstW p h).wind - h.wind.lo).toNat : Nat), h.rain.hi, h.temp.lo⟩ : Sky) = worstW p h := by
    have : h.wind.lo + (((worstW p h).wind - h.wind.lo).toNat : Int) = (worstW p h).wind := by omega
    rw [this]
    rfl
  rw [e5] at e4
  omega

/-- The skies of the document, in an hour of a possible scenario. -/
theorem skies_low {p : Plant} (hg : PlantGood p) {l : List Hour} (hl : l ∈ p.scen) {j : Nat} (hj : j < p.sun.length) :
    yieldW p j (skiesP p l j).1 = yieldW p j (worstW p (hourAt (seenHours p.seen l) (j : Int))) := by
  have hsp := sights_spec hg.sights
  have hlen := hg.fore.len l hl
  have hsun := hg.sun
  have hsa := seenHours_at (seen := p.seen) (l := l) j (sight_range hg hl) hsp.2.1
  unfold skiesP
  cases hf : p.seen.find? (fun s => s.hour == (j : Int)) with
  | some s =>
    have h1 := List.mem_of_find?_eq_some hf
    have h2 := List.find?_some hf
    rw [hsa.1 s h1 (by simpa using h2), worst_point]
  | none =>
    have h1 := List.find?_eq_none.1 hf
    rw [hsa.2 (fun s hs he => h1 s hs (by simpa using he))]
    exact (low_worst hg (hg.fore.hour l hl _ (List.mem_of_getElem? (hourAt_get (i := (j : Int)) ⟨by omega, by omega⟩))) j).1

/-! ### Rows of least yields -/

def poorW (p : Plant) (l : List Hour) (n : Nat) : List Int := (List.range n).map fun (j : Nat) => yieldW p (j : Int) (worstW p (hourAt l (j : Int)))
theorem poor_len (p : Plant) (l : List Hour) (n : Nat) : (poorW p l n).length = n := by simp [poorW]
theorem poor_push (p : Plant) (l : List Hour) (n : Nat) : intRows (poorW p l (n + 1)) = intRows (poorW p l n) ++ [[.i (yieldW p n (worstW p (hourAt l (n : Int))))]] := by
  simp [poorW, List.range_succ, intRows]

theorem f87 (p : Plant) (i : Int) (l : List Hour) (hs : PlantSmall p) (hg : PlantGood p) (hi : 0 ≤ i) (hl : p.scen[i.toNat]? = some l) :
    Fn Try.prog 87 [.agg p.cells, .i i] (.sl (intRows (poorW p (seenHours p.seen l) p.sun.length))) := by
  have hsl := hs.sun
  refine fn_walk 31 Try.call87 Try.func87 rfl (by decide) fun J => ?_
  simp (maxSteps := 4000000) only [go_sem, St.start, Try.ntmps87, Try.results87, Plant.cells]
  repeat (first | refine walkL_seq ?_ | refine walkL_skip ?_ | refine walkL_block ?_ | (refine walkL_region fun K hK => ?_; simp (maxSteps := 4000000) only [go_sem]; refine hK _ ?_; clear hK K) | refine walkL_nil ?_ | refine walkL_ret ?_ | refine walkL_exit ?_ | refine blockA_here ?_ | refine blockA_other rfl ?_ | refine blockA_ret ?_ | refine blockA_normal ?_ | refine thenA_ret ?_ | refine thenA_exit ?_ | refine thenA_normal ?_)
  refine walkL_loopS (fun (j : Nat) => [(6, .d (.i j)), (5, .own 29), (7, .undef), (8, .undef)]) (fun j => [(29, some (.arr 3 1 (intRows (poorW p (seenHours p.seen l) j))))]) (fun j => j ≤ p.sun.length) (fun j => p.sun.length - j) 0 ?_ (Nat.zero_le _) ?_
  · simp (maxSteps := 4000000) only [go_sem]
    refine weak_of [29] ?_ ?_ rfl rfl <;> simp [lessT, lessM, lessB, AV.less]
    all_goals first | done | rfl
  · intro j hj
    simp (maxSteps := 4000000) only [go_sem]
    repeat (first | refine walkL_seq ?_ | refine walkL_skip ?_ | refine walkL_block ?_ | (refine walkL_region fun K hK => ?_; simp (maxSteps := 4000000) only [go_sem]; refine hK _ ?_; clear hK K) | refine walkL_nil ?_ | refine walkL_ret ?_ | refine walkL_exit ?_ | refine blockA_here ?_ | refine blockA_other rfl ?_ | refine blockA_ret ?_ | refine blockA_normal ?_ | refine thenA_ret ?_ | refine thenA_exit ?_ | refine thenA_normal ?_)
    refine walkL_cond rfl (fun hb => ?_) (fun hb => ?_)
    · have hlt : j < p.sun.length := by simpa using hb
      have hw : IntKind.i64.wrap ((j : Int) + 1) = ((j + 1 : Nat) : Int) := by rw [wr_small (by omega)]; simp
      have h70 := f70 p i j l hg hi hl ⟨by omega, by omega⟩
      have hsk := skies_low hg (List.mem_of_getElem? hl) hlt
      obtain ⟨x, hx⟩ : ∃ x, x = (skiesP p l j).1 := ⟨_, rfl⟩
      rw [← hx] at hsk h70
      have h31 := f31 p j x ⟨by omega, by omega⟩
      rw [hsk] at h31
      rw [Plant.cells, Sky.row] at h31
      rw [Plant.cells, Sky.row, Sky.row] at h70
      have hn : (poorW p (seenHours p.seen l) j).length + 1 ≤ 549755813888 := by rw [poor_len]; omega
      repeat (first | refine walkL_seq ?_ | refine walkL_skip ?_ | refine walkL_block ?_ | (refine walkL_region fun K hK => ?_; simp (maxSteps := 4000000) only [go_sem, hn, hw]; (repeat (first | (refine ⟨_, .lent (hf := h70) (hd := rfl) (hr := rfl), ?_⟩; simp (maxSteps := 4000000) only [go_sem, hn, hw]) | (refine ⟨_, .lent (hf := h31) (hd := rfl) (hr := rfl), ?_⟩; simp (maxSteps := 4000000) only [go_sem, hn, hw]) | (refine ⟨_, .given (hf := h70) (hd := rfl) (ha := rfl), ?_⟩; simp (maxSteps := 4000000) only [go_sem, hn, hw]) | (refine ⟨_, .given (hf := h31) (hd := rfl) (ha := rfl), ?_⟩; simp (maxSteps := 4000000) only [go_sem, hn, hw]))); refine hK _ ?_; clear hK K) | refine walkL_nil ?_ | refine walkL_ret ?_ | refine walkL_exit ?_ | refine blockA_here ?_ | refine blockA_other rfl ?_ | refine blockA_ret ?_ | refine blockA_normal ?_ | refine thenA_ret ?_ | refine thenA_exit ?_ | refine thenA_normal ?_)
      refine ⟨rfl, j + 1, ?_, hlt, by omega⟩
      rw [poor_push]
      refine weak_of [] ?_ ?_ rfl rfl <;> simp [lessT, lessM, lessB, AV.less]
      all_goals first | done | rfl
    · have he : j = p.sun.length := by (have : ¬ j < p.sun.length := by simpa using hb); omega
      subst he
      repeat (first | refine walkL_seq ?_ | refine walkL_skip ?_ | refine walkL_block ?_ | (refine walkL_region fun K hK => ?_; simp (maxSteps := 4000000) only [go_sem]; refine hK _ ?_; clear hK K) | refine walkL_nil ?_ | refine walkL_ret ?_ | refine walkL_exit ?_ | refine blockA_here ?_ | refine blockA_other rfl ?_ | refine blockA_ret ?_ | refine blockA_normal ?_ | refine thenA_ret ?_ | refine thenA_exit ?_ | refine thenA_normal ?_)
      simp (maxSteps := 4000000) only [go_sem]

theorem look_good {p : Plant} (hg : PlantGood p) : lookF p.scen p.seen 0 true = 0 := by
  have h1 := fore_iff.2 hg.fore
  have h3 := hg.poss
  unfold lookF
  rw [h1, hg.sights]
  cases hp : possL p.scen p.seen with
  | nil => exact absurd hp h3
  | cons a l => rfl

def rowsP (p : Plant) : List (List Int) := (gridOf p).scen.map fun l => poorW p l p.sun.length

theorem f48 (p : Plant) (hs : PlantSmall p) (hg : PlantGood p) : Fn Try.prog 48 [.agg p.cells] (.sl (listRows (rowsP p))) := by
  have h33 := f33 p.scen p.seen hs.fore hs.seen
  have hlk := look_good hg
  rw [hlk, if_pos rfl] at h33
  have hnl := nums_len (possL p.scen p.seen)
  have hpl := possFrom_len p.seen p.scen 0
  change (possL p.scen p.seen).length ≤ _ at hpl
  have hsc := hs.fore.scen
  obtain ⟨N, eN⟩ : ∃ N, N = numsOf (possL p.scen p.seen) := ⟨_, rfl⟩
  rw [← eN] at h33 hnl
  have hrow : ∀ k, (rowsP p).length = N.length ∧ (k < N.length → ∃ (i : Int) (l : List Hour), N[k]? = some i ∧ 0 ≤ i ∧ p.scen[i.toNat]? = some l ∧ listRows ((rowsP p).take (k + 1)) = listRows ((rowsP p).take k) ++ [[.sl (intRows (poorW p (seenHours p.seen l) p.sun.length))]]) := by
    intro k
    have e : (gridOf p).scen = scensOf (possL p.scen p.seen) := rfl
    refine ⟨by rw [rowsP, List.length_map, e, scens_len, hnl], fun hk => ?_⟩
    obtain ⟨i, hi⟩ : ∃ i, N[k]? = some i := ⟨_, List.getElem?_eq_getElem hk⟩
    have hi' := hi
    rw [eN] at hi'
    obtain ⟨h1, l, h2, h3, h4, h5⟩ := nums_get hi'
    refine ⟨i, l, hi, h1, h2, ?_⟩
    have hr : (rowsP p)[k]? = some (poorW p (seenHours p.seen l) p.sun.length) := by
      rw [rowsP, e, scensOf, List.getElem?_map, List.getElem?_map, h5]
      rfl
    rw [List.take_add_one, hr]
    simp [listRows]
  refine fn_walk 31 Try.call48 Try.func48 rfl (by decide) fun J => ?_
  simp (maxSteps := 4000000) only [go_sem, St.start, Try.ntmps48, Try.results48, Plant.cells]
  repeat (first | refine walkL_seq ?_ | refine walkL_skip ?_ | refine walkL_block ?_ | (refine walkL_region fun K hK => ?_; simp (maxSteps := 4000000) only [go_sem]; (repeat (first | (refine ⟨_, .lent (hf := h33) (hd := rfl) (hr := rfl), ?_⟩; simp (maxSteps := 4000000) only [go_sem]) | (refine ⟨_, .given (hf := h33) (hd := rfl) (ha := rfl), ?_⟩; simp (maxSteps := 4000000) only [go_sem]))); refine hK _ ?_; clear hK K) | refine walkL_nil ?_ | refine walkL_ret ?_ | refine walkL_exit ?_ | refine blockA_here ?_ | refine blockA_other rfl ?_ | refine blockA_ret ?_ | refine blockA_normal ?_ | refine thenA_ret ?_ | refine thenA_exit ?_ | refine thenA_normal ?_)
  refine walkL_loopS (fun (k : Nat) => [(6, .d (.i k)), (5, .own 29)]) (fun k => [(29, some (.arr 26 1 (listRows ((rowsP p).take k))))]) (fun k => k ≤ N.length) (fun k => N.length - k) 0 ?_ (Nat.zero_le _) ?_
  · simp (maxSteps := 4000000) only [go_sem]
    refine weak_of [29] ?_ ?_ rfl rfl <;> simp [lessT, lessM, lessB, AV.less]
    all_goals first | done | rfl
  · intro k hk
    simp (maxSteps := 4000000) only [go_sem]
    repeat (first | refine walkL_seq ?_ | refine walkL_skip ?_ | refine walkL_block ?_ | (refine walkL_region fun K hK => ?_; simp (maxSteps := 4000000) only [go_sem]; refine hK _ ?_; clear hK K) | refine walkL_nil ?_ | refine walkL_ret ?_ | refine walkL_exit ?_ | refine blockA_here ?_ | refine blockA_other rfl ?_ | refine blockA_ret ?_ | refine blockA_normal ?_ | refine thenA_ret ?_ | refine thenA_exit ?_ | refine thenA_normal ?_)
    refine walkL_cond rfl (fun hb => ?_) (fun hb => ?_)
    · have hlt : k < N.length := by simpa using hb
      have hw : IntKind.i64.wrap ((k : Int) + 1) = ((k + 1 : Nat) : Int) := by rw [wr_small (by omega)]; simp
      obtain ⟨i, l, h1, h2, h3, h4⟩ := (hrow k).2 hlt
      have g1 := intRows_at h1
      have h87 := f87 p i l hs hg h2 h3
      rw [Plant.cells] at h87
      have hn : ((rowsP p).take k).length + 1 ≤ 549755813888 := by simp; omega
      repeat (first | refine walkL_seq ?_ | refine walkL_skip ?_ | refine walkL_block ?_ | (refine walkL_region fun K hK => ?_; simp (maxSteps := 4000000) only [go_sem]; refine hK _ ?_; clear hK K) | refine walkL_nil ?_ | refine walkL_ret ?_ | refine walkL_exit ?_ | refine blockA_here ?_ | refine blockA_other rfl ?_ | refine blockA_ret ?_ | refine blockA_normal ?_ | refine thenA_ret ?_ | refine thenA_exit ?_ | refine thenA_normal ?_)
      refine walkL_drawnA (by kernel_rfl) (by kernel_rfl) fun K hK => ?_
      simp (maxSteps := 4000000) only [go_sem, g1, hn]
      refine ⟨_, .fn (hf := h87) (hd := rfl) (hr := .inr rfl), ?_⟩
      simp (maxSteps := 4000000) only [go_sem, hn]
      refine ⟨by kernel_rfl, hK _ ?_⟩
      clear hK K
      repeat (first | refine walkL_seq ?_ | refine walkL_skip ?_ | refine walkL_block ?_ | (refine walkL_region fun K hK => ?_; simp (maxSteps := 4000000) only [go_sem, hw]; refine hK _ ?_; clear hK K) | refine walkL_nil ?_ | refine walkL_ret ?_ | refine walkL_exit ?_ | refine blockA_here ?_ | refine blockA_other rfl ?_ | refine blockA_ret ?_ | refine blockA_normal ?_ | refine thenA_ret ?_ | refine thenA_exit ?_ | refine thenA_normal ?_)
      refine ⟨rfl, k + 1, ?_, hlt, by omega⟩
      rw [h4]
      refine weak_of [] ?_ ?_ rfl rfl <;> simp [lessT, lessM, lessB, AV.less]
      all_goals first | done | rfl
    · have he : k = N.length := by (have : ¬ k < N.length := by simpa using hb); omega
      subst he
      rw [← (hrow 0).1, List.take_length]
      repeat (first | refine walkL_seq ?_ | refine walkL_skip ?_ | refine walkL_block ?_ | (refine walkL_region fun K hK => ?_; simp (maxSteps := 4000000) only [go_sem]; refine hK _ ?_; clear hK K) | refine walkL_nil ?_ | refine walkL_ret ?_ | refine walkL_exit ?_ | refine blockA_here ?_ | refine blockA_other rfl ?_ | refine blockA_ret ?_ | refine blockA_normal ?_ | refine thenA_ret ?_ | refine thenA_exit ?_ | refine thenA_normal ?_)
      simp (maxSteps := 4000000) only [go_sem]
end Go.Ab
namespace Go.Ab
open Go.RowKit Go.Proofs
set_option maxHeartbeats 8000000
set_option maxRecDepth 20000
attribute [local irreducible] WalkL Walk

/-! ### Yields -/

theorem f66 (x : Int) (l : List Int) (hl : l.length < 2 ^ 30) : Fn Try.prog 66 [.sl (intRows (x :: l))] (.i (l.foldl min x)) := by
  have q : decide (((x :: l).length : Int) < 1) = false := by simp; omega
  have g0 : (intRows (x :: l))[0]? = some [.i x] := rfl
  have hL : (x :: l).length = l.length + 1 := rfl
  refine fn_walk 25 Try.call66 Try.func66 rfl (by decide) fun J => ?_
  simp (maxSteps := 4000000) only [go_sem, St.start, Try.ntmps66, Try.results66]
  repeat (first | refine walkL_true rfl ?_ | refine walkL_false rfl ?_ | refine walkL_seq ?_ | refine walkL_skip ?_ | refine walkL_block ?_ | (refine walkL_region fun K hK => ?_; simp (maxSteps := 4000000) only [go_sem, q, g0]; refine hK _ ?_; clear hK K) | refine walkL_nil ?_ | refine walkL_ret ?_ | refine walkL_exit ?_ | refine blockA_here ?_ | refine blockA_other rfl ?_ | refine blockA_ret ?_ | refine blockA_normal ?_ | refine thenA_ret ?_ | refine thenA_exit ?_ | refine thenA_normal ?_)
  refine walkL_loopS (fun (i : Nat) => [(4, .d (.i ((i + 1 : Nat) : Int))), (3, .d (.i ((l.take i).foldl min x)))]) (fun _ => []) (fun i => i ≤ l.length) (fun i => l.length - i) 0 ?_ (Nat.zero_le _) ?_
  · simp (maxSteps := 4000000) only [go_sem]
    refine weak_of [] ?_ ?_ rfl rfl <;> simp [lessT, lessM, lessB, AV.less]
    all_goals first | done | rfl | exact ⟨rfl, rfl⟩
  · intro i hi
    simp (maxSteps := 4000000) only [go_sem]
    repeat (first | refine walkL_seq ?_ | refine walkL_skip ?_ | refine walkL_block ?_ | (refine walkL_region fun K hK => ?_; simp (maxSteps := 4000000) only [go_sem]; refine hK _ ?_; clear hK K) | refine walkL_nil ?_ | refine walkL_ret ?_ | refine walkL_exit ?_ | refine blockA_here ?_ | refine blockA_other rfl ?_ | refine blockA_ret ?_ | refine blockA_normal ?_ | refine thenA_ret ?_ | refine thenA_exit ?_ | refine thenA_normal ?_)
    refine walkL_cond rfl (fun hb => ?_) (fun hb => ?_)
    · have hlt : i < l.length := by
        have : ((i + 1 : Nat) : Int) < ((x :: l).length : Int) := by simpa using hb
        omega
      have hw : IntKind.i64.wrap (((i + 1 : Nat) : Int) + 1) = ((i + 1 + 1 : Nat) : Int) := by rw [wr_small (by omega)]; simp
      obtain ⟨y, hy⟩ : ∃ y, l[i]? = some y := ⟨_, List.getElem?_eq_getElem hlt⟩
      have g1 : (intRows (x :: l))[i + 1]? = some [.i y] := intRows_at (by rw [List.getElem?_cons_succ]; exact hy)
      have e := foldl_take_succ min x l i y hy
      repeat (first | refine walkL_seq ?_ | refine walkL_skip ?_ | refine walkL_block ?_ | (refine walkL_region fun K hK => ?_; simp (maxSteps := 4000000) only [go_sem, g1, hw]; refine hK _ ?_; clear hK K) | refine walkL_nil ?_ | refine walkL_ret ?_ | refine walkL_exit ?_ | refine blockA_here ?_ | refine blockA_other rfl ?_ | refine blockA_ret ?_ | refine blockA_normal ?_ | refine thenA_ret ?_ | refine thenA_exit ?_ | refine thenA_normal ?_)
      refine ⟨rfl, i + 1, ?_, hlt, by omega⟩
      rw [e]
      refine weak_of [] ?_ ?_ rfl rfl <;> simp [lessT, lessM, lessB, AV.less]
      all_goals first | done | rfl | exact ⟨rfl, rfl⟩
    · have he : i = l.length := by
        have : ¬ ((i + 1 : Nat) : Int) < ((x :: l).length : Int) := by simpa using hb
        omega
      subst he
      rw [List.take_length]
      repeat (first | refine walkL_seq ?_ | refine walkL_skip ?_ | refine walkL_block ?_ | (refine walkL_region fun K hK => ?_; simp (maxSteps := 4000000) only [go_sem]; refine hK _ ?_; clear hK K) | refine walkL_nil ?_ | refine walkL_ret ?_ | refine walkL_exit ?_ | refine blockA_here ?_ | refine blockA_other rfl ?_ | refine blockA_ret ?_ | refine blockA_normal ?_ | refine thenA_ret ?_ | refine thenA_exit ?_ | refine thenA_normal ?_)
      simp (maxSteps := 4000000) only [go_sem]

theorem f67 (x : Int) (l : List Int) (hl : l.length < 2 ^ 30) : Fn Try.prog 67 [.sl (intRows (x :: l))] (.i (l.foldl max x)) := by
  have q : decide (((x :: l).length : Int) < 1) = false := by simp; omega
  have g0 : (intRows (x :: l))[0]? = some [.i x] := rfl
  have hL : (x :: l).length = l.length + 1 := rfl
  refine fn_walk 25 Try.call67 Try.func67 rfl (by decide) fun J => ?_
  simp (maxSteps := 4000000) only [go_sem, St.start, Try.ntmps67, Try.results67]
  repeat (first | refine walkL_true rfl ?_ | refine walkL_false rfl ?_ | refine walkL_seq ?_ | refine walkL_skip ?_ | refine walkL_block ?_ | (refine walkL_region fun K hK => ?_; simp (maxSteps := 4000000) only [go_sem, q, g0]; refine hK _ ?_; clear hK K) | refine walkL_nil ?_ | refine walkL_ret ?_ | refine walkL_exit ?_ | refine blockA_here ?_ | refine blockA_other rfl ?_ | refine blockA_ret ?_ | refine blockA_normal ?_ | refine thenA_ret ?_ | refine thenA_exit ?_ | refine thenA_normal ?_)
  refine walkL_loopS (fun (i : Nat) => [(4, .d (.i ((i + 1 : Nat) : Int))), (3, .d (.i ((l.take i).foldl max x)))]) (fun _ => []) (fun i => i ≤ l.length) (fun i => l.length - i) 0 ?_ (Nat.zero_le _) ?_
  · simp (maxSteps := 4000000) only [go_sem]
    refine weak_of [] ?_ ?_ rfl rfl <;> simp [lessT, lessM, lessB, AV.less]
    all_goals first | done | rfl | exact ⟨rfl, rfl⟩
  · intro i hi
    simp (maxSteps := 4000000) only [go_sem]
    repeat (first | refine walkL_seq ?_ | refine walkL_skip ?_ | refine walkL_block ?_ | (refine walkL_region fun K hK => ?_; simp (maxSteps := 4000000) only [go_sem]; refine hK _ ?_; clear hK K) | refine walkL_nil ?_ | refine walkL_ret ?_ | refine walkL_exit ?_ | refine blockA_here ?_ | refine blockA_other rfl ?_ | refine blockA_ret ?_ | refine blockA_normal ?_ | refine thenA_ret ?_ | refine thenA_exit ?_ | refine thenA_normal ?_)
    refine walkL_cond rfl (fun hb => ?_) (fun hb => ?_)
    · have hlt : i < l.length := by
        have : ((i + 1 : Nat) : Int) < ((x :: l).length : Int) := by simpa using hb
        omega
      have hw : IntKind.i64.wrap (((i + 1 : Nat) : Int) + 1) = ((i + 1 + 1 : Nat) : Int) := by rw [wr_small (by omega)]; simp
      obtain ⟨y, hy⟩ : ∃ y, l[i]? = some y := ⟨_, List.getElem?_eq_getElem hlt⟩
      have g1 : (intRows (x :: l))[i + 1]? = some [.i y] := intRows_at (by rw [List.getElem?_cons_succ]; exact hy)
      have e := foldl_take_succ max x l i y hy
      repeat (first | refine walkL_seq ?_ | refine walkL_skip ?_ | refine walkL_block ?_ | (refine walkL_region fun K hK => ?_; simp (maxSteps := 4000000) only [go_sem, g1, hw]; refine hK _ ?_; clear hK K) | refine walkL_nil ?_ | refine walkL_ret ?_ | refine walkL_exit ?_ | refine blockA_here ?_ | refine blockA_other rfl ?_ | refine blockA_ret ?_ | refine blockA_normal ?_ | refine thenA_ret ?_ | refine thenA_exit ?_ | refine thenA_normal ?_)
      refine ⟨rfl, i + 1, ?_, hlt, by omega⟩
      rw [e]
      refine weak_of [] ?_ ?_ rfl rfl <;> simp [lessT, lessM, lessB, AV.less]
      all_goals first | done | rfl | exact ⟨rfl, rfl⟩
    · have he : i = l.length := by
        have : ¬ ((i + 1 : Nat) : Int) < ((x :: l).length : Int) := by simpa using hb
        omega
      subst he
      rw [List.take_length]
      repeat (first | refine walkL_seq ?_ | refine walkL_skip ?_ | refine walkL_block ?_ | (refine walkL_region fun K hK => ?_; simp (maxSteps := 4000000) only [go_sem]; refine hK _ ?_; clear hK K) | refine walkL_nil ?_ | refine walkL_ret ?_ | refine walkL_exit ?_ | refine blockA_here ?_ | refine blockA_other rfl ?_ | refine blockA_ret ?_ | refine blockA_normal ?_ | refine thenA_ret ?_ | refine thenA_exit ?_ | refine thenA_normal ?_)
      simp (maxSteps := 4000000) only [go_sem]
end Go.Ab
namespace Go.Ab
open Go.RowKit Go.Proofs
set_option maxHeartbeats 8000000
set_option maxRecDepth 20000
attribute [local irreducible] WalkL Walk

def minL : List Int → Int
  | [] => 0
  | x :: l => l.foldl min x
def maxL : List Int → Int
  | [] => 0
  | x :: l => l.foldl max x
def lowsG (g : Grid) (h : Nat) : List Int := g.scen.map fun l => yieldW g.p (h : Int) (worstW g.p (hourAt l (h : Int)))
def highsG (g : Grid) (h : Nat) : List Int := g.scen.map fun l => yieldW g.p (h : Int) (bestW g.p (hourAt l (h : Int)))
def spanR (g : Grid) (h : Nat) : List DV := [.i (minL (lowsG g h)), .i (maxL (highsG g h))]
def spansR (g : Grid) (n : Nat) : List (List DV) := (List.range n).map (spanR g)
theorem spansR_push (g : Grid) (n : Nat) : spansR g (n + 1) = spansR g n ++ [spanR g n] := by simp [spansR, List.range_succ]
theorem spansR_len (g : Grid) (n : Nat) : (spansR g n).length = n := by simp [spansR]
theorem spansR_head (g : Grid) (n : Nat) : headIs 2 (spansR g n) = true := by cases n <;> simp [spansR, spanR, List.range_succ_eq_map, headIs]

theorem f66L (l : List Int) (h0 : l ≠ []) (hl : l.length < 2 ^ 30) : Fn Try.prog 66 [.sl (intRows l)] (.i (minL l)) := by
  cases l with
  | nil => exact absurd rfl h0
  | cons x l => exact f66 x l (by simp at hl; omega)
theorem f67L (l : List Int) (h0 : l ≠ []) (hl : l.length < 2 ^ 30) : Fn Try.prog 67 [.sl (intRows l)] (.i (maxL l)) := by
  cases l with
  | nil => exact absurd rfl h0
  | cons x l => exact f67 x l (by simp at hl; omega)

def yieldsP (p : Plant) : List (List DV) × Int := if openE p [] = 0 then (spansR (gridOf p) p.sun.length, 0) else ([], openE p [])

theorem f32 (p : Plant) (hs : PlantSmall p) : Fn Try.prog 32 [.agg p.cells] (.tup [.sl (yieldsP p).1, .i (yieldsP p).2]) := by
  have h44 := f44 p [] hs (by simp) (by simp)
  have e0 : listRows [] = [] := rfl
  rw [e0, Plant.cells] at h44
  by_cases hz : openE p [] = 0
  · have hz2 := hz
    rw [openE_nil] at hz2
    have hg := plant_good hz2
    obtain ⟨eH, eH1, eH2⟩ := grid_lens hg
    obtain ⟨H, hgo, _⟩ := grid_good hg
    have hsc := hgo.scen
    have hscl := fun l (hl : l ∈ (gridOf p).scen) => (scen_ok hg hl).1
    rw [if_pos hz, hz] at h44
    rw [yieldsP, if_pos hz]
    obtain ⟨g, hgg⟩ : ∃ g, g = gridOf p := ⟨_, rfl⟩
    have hgp : g.p = p := by rw [hgg]; rfl
    rw [← hgg] at h44 eH hsc hscl ⊢
    have h63 := fun (h : Int) (s : Sky) hh => f63 g h s hh
    have h64 := fun (x : Hour) => f64 g x
    have h65 := fun (x : Hour) => f65 g x
    rw [Grid.cells] at h44 h63 h64 h65
    rw [eH] at h44 h63 h64 h65
    refine fn_walk 71 Try.call32 Try.func32 rfl (by decide) fun J => ?_
    simp (maxSteps := 4000000) only [go_sem, St.start, Try.ntmps32, Try.results32, Plant.cells]
    repeat (first | refine walkL_true rfl ?_ | refine walkL_false rfl ?_ | refine walkL_seq ?_ | refine walkL_skip ?_ | refine walkL_block ?_ | (refine walkL_region fun K hK => ?_; simp (maxSteps := 4000000) only [go_sem]; (repeat (first | (refine ⟨_, .lent (hf := h44) (hd := rfl) (hr := rfl), ?_⟩; simp (maxSteps := 4000000) only [go_sem]) | (refine ⟨_, .given (hf := h44) (hd := rfl) (ha := rfl), ?_⟩; simp (maxSteps := 4000000) only [go_sem]))); refine hK _ ?_; clear hK K) | refine walkL_nil ?_ | refine walkL_ret ?_ | refine walkL_exit ?_ | refine blockA_here ?_ | refine blockA_other rfl ?_ | refine blockA_ret ?_ | refine blockA_normal ?_ | refine thenA_ret ?_ | refine thenA_exit ?_ | refine thenA_normal ?_)
    refine walkL_loopS (fun (h : Nat) => [(24, .d (.i h)), (6, .own 68), (7, .undef), (8, .undef), (9, .undef), (11, .undef), (32, .undef)]) (fun h => [(68, some (.arr 62 2 (spansR g h)))]) (fun h => h ≤ p.sun.length) (fun h => p.sun.length - h) 0 ?_ (Nat.zero_le _) ?_
    · simp (maxSteps := 4000000) only [go_sem]
      refine weak_of [68] ?_ ?_ rfl rfl <;> simp [lessT, lessM, lessB, AV.less]
      all_goals first | done | rfl | exact ⟨rfl, rfl⟩
    · intro h hh
      simp (maxSteps := 4000000) only [go_sem]
      repeat (first | refine walkL_seq ?_ | refine walkL_skip ?_ | refine walkL_block ?_ | (refine walkL_region fun K hK => ?_; simp (maxSteps := 4000000) only [go_sem]; refine hK _ ?_; clear hK K) | refine walkL_nil ?_ | refine walkL_ret ?_ | refine walkL_exit ?_ | refine blockA_here ?_ | refine blockA_other rfl ?_ | refine blockA_ret ?_ | refine blockA_normal ?_ | refine thenA_ret ?_ | refine thenA_exit ?_ | refine thenA_normal ?_)
      refine walkL_cond rfl (fun hb => ?_) (fun hb => ?_)
      · have hlt : h < p.sun.length := by simpa using hb
        have hw : IntKind.i64.wrap ((h : Int) + 1) = ((h + 1 : Nat) : Int) := by rw [wr_small (by omega)]; simp
        repeat (first | refine walkL_seq ?_ | refine walkL_skip ?_ | refine walkL_block ?_ | (refine walkL_region fun K hK => ?_; simp (maxSteps := 4000000) only [go_sem]; refine hK _ ?_; clear hK K) | refine walkL_nil ?_ | refine walkL_ret ?_ | refine walkL_exit ?_ | refine blockA_here ?_ | refine blockA_other rfl ?_ | refine blockA_ret ?_ | refine blockA_normal ?_ | refine thenA_ret ?_ | refine thenA_exit ?_ | refine thenA_normal ?_)
        refine walkL_loopS (fun (k : Nat) => [(32, .d (.i k)), (8, .own 47), (9, .own 59), (11, .undef)]) (fun k => [(47, some (.arr 3 1 (intRows ((lowsG g h).take k)))), (59, some (.arr 3 1 (intRows ((highsG g h).take k))))]) (fun k => k ≤ g.scen.length) (fun k => g.scen.length - k) 0 ?_ (Nat.zero_le _) ?_
        · simp (maxSteps := 4000000) only [go_sem]
          refine weak_of [47, 59] ?_ ?_ rfl rfl <;> simp [lessT, lessM, lessB, AV.less]
          all_goals first | done | rfl | exact ⟨rfl, rfl⟩
        · intro k hk
          simp (maxSteps := 4000000) only [go_sem]
          repeat (first | refine walkL_seq ?_ | refine walkL_skip ?_ | refine walkL_block ?_ | (refine walkL_region fun K hK => ?_; simp (maxSteps := 4000000) only [go_sem]; refine hK _ ?_; clear hK K) | refine walkL_nil ?_ | refine walkL_ret ?_ | refine walkL_exit ?_ | refine blockA_here ?_ | refine blockA_other rfl ?_ | refine blockA_ret ?_ | refine blockA_normal ?_ | refine thenA_ret ?_ | refine thenA_exit ?_ | refine thenA_normal ?_)
          refine walkL_cond rfl (fun hb => ?_) (fun hb => ?_)
          · have hltk : k < g.scen.length := by simpa using hb
            have hwk : IntKind.i64.wrap ((k : Int) + 1) = ((k + 1 : Nat) : Int) := by rw [wr_small (by omega)]; simp
            obtain ⟨l, hl⟩ : ∃ l, g.scen[k]? = some l := ⟨_, List.getElem?_eq_getElem hltk⟩
            have hll := hscl l (List.mem_of_getElem? hl)
            have g1 := scenRows_at hl
            have g2 := hourRows_at (hourAt_get (l := l) (i := (h : Int)) ⟨by omega, by omega⟩)
            rw [Int.toNat_natCast] at g2
            obtain ⟨x, hx⟩ : ∃ x, x = hourAt l (h : Int) := ⟨_, rfl⟩
            rw [← hx] at g2
            have a1 := h64 x
            have a2 := h65 x
            have a3 := h63 (h : Int) (worstW g.p x) ⟨by omega, by rw [hgp]; omega⟩
            have a4 := h63 (h : Int) (bestW g.p x) ⟨by omega, by rw [hgp]; omega⟩
            rw [Hour.row] at a1 a2
            have n1 : (lowsG g h).take (k + 1) = (lowsG g h).take k ++ [yieldW g.p h (worstW g.p x)] := by
              rw [List.take_add_one, lowsG, List.getElem?_map, hl, hx]; rfl
            have n2 : (highsG g h).take (k + 1) = (highsG g h).take k ++ [yieldW g.p h (bestW g.p x)] := by
              rw [List.take_add_one, highsG, List.getElem?_map, hl, hx]; rfl
            have e1 : (lowsG g h).length = g.scen.length := by simp [lowsG]
            have e2 : (highsG g h).length = g.scen.length := by simp [highsG]
            obtain ⟨A, hA⟩ : ∃ A, A = (lowsG g h).take k := ⟨_, rfl⟩
            obtain ⟨B, hB⟩ : ∃ B, B = (highsG g h).take k := ⟨_, rfl⟩
            have hA1 : A.length + 1 ≤ 549755813888 := by rw [hA, List.length_take]; omega
            have hB1 : B.length + 1 ≤ 549755813888 := by rw [hB, List.length_take]; omega
            rw [← hA] at n1 ⊢
            rw [← hB] at n2 ⊢
            obtain ⟨W1, hW1⟩ : ∃ W, W = (worstW g.p x).row := ⟨_, rfl⟩
            obtain ⟨W2, hW2⟩ : ∃ W, W = (bestW g.p x).row := ⟨_, rfl⟩
            rw [Sky.row] at a1 a2 a3 a4
            repeat (first | refine walkL_seq ?_ | refine walkL_skip ?_ | refine walkL_block ?_ | (refine walkL_region fun K hK => ?_; simp (maxSteps := 4000000) only [go_sem, g1, g2, hA1, hB1, hwk, Hour.row]; (repeat (first | (refine ⟨_, .lent (hf := a1) (hd := rfl) (hr := rfl), ?_⟩; simp (maxSteps := 4000000) only [go_sem, g1, g2, hA1, hB1, hwk, Hour.row]) | (refine ⟨_, .lent (hf := a2) (hd := rfl) (hr := rfl), ?_⟩; simp (maxSteps := 4000000) only [go_sem, g1, g2, hA1, hB1, hwk, Hour.row]) | (refine ⟨_, .lent (hf := a3) (hd := rfl) (hr := rfl), ?_⟩; simp (maxSteps := 4000000) only [go_sem, g1, g2, hA1, hB1, hwk, Hour.row]) | (refine ⟨_, .lent (hf := a4) (hd := rfl) (hr := rfl), ?_⟩; simp (maxSteps := 4000000) only [go_sem, g1, g2, hA1, hB1, hwk, Hour.row]) | (refine ⟨_, .given (hf := a1) (hd := rfl) (ha := rfl), ?_⟩; simp (maxSteps := 4000000) only [go_sem, g1, g2, hA1, hB1, hwk, Hour.row]) | (refine ⟨_, .given (hf := a2) (hd := rfl) (ha := rfl), ?_⟩; simp (maxSteps := 4000000) only [go_sem, g1, g2, hA1, hB1, hwk, Hour.row]) | (refine ⟨_, .given (hf := a3) (hd := rfl) (ha := rfl), ?_⟩; simp (maxSteps := 4000000) only [go_sem, g1, g2, hA1, hB1, hwk, Hour.row]) | (refine ⟨_, .given (hf := a4) (hd := rfl) (ha := rfl), ?_⟩; simp (maxSteps := 4000000) only [go_sem, g1, g2, hA1, hB1, hwk, Hour.row]))); refine hK _ ?_; clear hK K) | refine walkL_nil ?_ | refine walkL_ret ?_ | refine walkL_exit ?_ | refine blockA_here ?_ | refine blockA_other rfl ?_ | refine blockA_ret ?_ | refine blockA_normal ?_ | refine thenA_ret ?_ | refine thenA_exit ?_ | refine thenA_normal ?_)
            refine ⟨rfl, k + 1, ?_, hltk, by omega⟩
            rw [n1, n2, ← intRows_append, ← intRows_append]
            refine weak_of [] ?_ ?_ rfl rfl <;> simp [lessT, lessM, lessB, AV.less]
            all_goals first | done | rfl | exact ⟨rfl, rfl⟩
          · have he : k = g.scen.length := by (have : ¬ k < g.scen.length := by simpa using hb); omega
            subst he
            have e1 : (lowsG g h).length = g.scen.length := by simp [lowsG]
            have e2 : (highsG g h).length = g.scen.length := by simp [highsG]
            rw [← e1, List.take_length, e1, ← e2, List.take_length]
            have z1 := f66L (lowsG g h) (by intro e; rw [e] at e1; exact hsc.1 (List.length_eq_zero_iff.1 e1.symm)) (by omega)
            have z2 := f67L (highsG g h) (by intro e; rw [e] at e2; exact hsc.1 (List.length_eq_zero_iff.1 e2.symm)) (by omega)
            have n1 := spansR_push g h
            have n3 := spansR_len g h
            obtain ⟨m1, hm1⟩ : ∃ m, m = minL (lowsG g h) := ⟨_, rfl⟩
            obtain ⟨m2, hm2⟩ : ∃ m, m = maxL (highsG g h) := ⟨_, rfl⟩
            rw [spanR, ← hm1, ← hm2] at n1
            rw [← hm1] at z1
            rw [← hm2] at z2
            have hn : (spansR g h).length + 1 ≤ 549755813888 := by rw [n3]; omega
            have hhd := spansR_head g h
            repeat (first | refine walkL_seq ?_ | refine walkL_skip ?_ | refine walkL_block ?_ | (refine walkL_region fun K hK => ?_; simp (maxSteps := 4000000) only [go_sem, hn, hhd, hw]; (repeat (first | (refine ⟨_, .lent (hf := z1) (hd := rfl) (hr := rfl), ?_⟩; simp (maxSteps := 4000000) only [go_sem, hn, hhd, hw]) | (refine ⟨_, .lent (hf := z2) (hd := rfl) (hr := rfl), ?_⟩; simp (maxSteps := 4000000) only [go_sem, hn, hhd, hw]) | (refine ⟨_, .given (hf := z1) (hd := rfl) (ha := rfl), ?_⟩; simp (maxSteps := 4000000) only [go_sem, hn, hhd, hw]) | (refine ⟨_, .given (hf := z2) (hd := rfl) (ha := rfl), ?_⟩; simp (maxSteps := 4000000) only [go_sem, hn, hhd, hw]))); refine hK _ ?_; clear hK K) | refine walkL_nil ?_ | refine walkL_ret ?_ | refine walkL_exit ?_ | refine blockA_here ?_ | refine blockA_other rfl ?_ | refine blockA_ret ?_ | refine blockA_normal ?_ | refine thenA_ret ?_ | refine thenA_exit ?_ | refine thenA_normal ?_)
            refine ⟨rfl, h + 1, ?_, hlt, by omega⟩
            rw [n1]
            refine weak_of [] ?_ ?_ rfl rfl <;> simp [lessT, lessM, lessB, AV.less]
            all_goals first | done | rfl | exact ⟨rfl, rfl⟩
      · have he : h = p.sun.length := by (have : ¬ h < p.sun.length := by simpa using hb); omega
        subst he
        repeat (first | refine walkL_seq ?_ | refine walkL_skip ?_ | refine walkL_block ?_ | (refine walkL_region fun K hK => ?_; simp (maxSteps := 4000000) only [go_sem]; refine hK _ ?_; clear hK K) | refine walkL_nil ?_ | refine walkL_ret ?_ | refine walkL_exit ?_ | refine blockA_here ?_ | refine blockA_other rfl ?_ | refine blockA_ret ?_ | refine blockA_normal ?_ | refine thenA_ret ?_ | refine thenA_exit ?_ | refine thenA_normal ?_)
        simp (maxSteps := 4000000) only [go_sem]
  · rw [if_neg hz] at h44
    rw [yieldsP, if_neg hz]
    have q2 : (openE p [] != 0) = true := by simpa using hz
    refine fn_walk 71 Try.call32 Try.func32 rfl (by decide) fun J => ?_
    simp (maxSteps := 4000000) only [go_sem, St.start, Try.ntmps32, Try.results32, Plant.cells]
    repeat (first | refine walkL_true rfl ?_ | refine walkL_false rfl ?_ | refine walkL_seq ?_ | refine walkL_skip ?_ | refine walkL_block ?_ | (refine walkL_region fun K hK => ?_; simp (maxSteps := 4000000) only [go_sem, q2]; (repeat (first | (refine ⟨_, .lent (hf := h44) (hd := rfl) (hr := rfl), ?_⟩; simp (maxSteps := 4000000) only [go_sem, q2]) | (refine ⟨_, .given (hf := h44) (hd := rfl) (ha := rfl), ?_⟩; simp (maxSteps := 4000000) only [go_sem, q2]))); refine hK _ ?_; clear hK K) | refine walkL_nil ?_ | refine walkL_ret ?_ | refine walkL_exit ?_ | refine blockA_here ?_ | refine blockA_other rfl ?_ | refine blockA_ret ?_ | refine blockA_normal ?_ | refine thenA_ret ?_ | refine thenA_exit ?_ | refine thenA_normal ?_)
    simp (maxSteps := 4000000) only [go_sem]
    try rfl
end Go.Ab
namespace Go.Ab
open Go.RowKit Go.Proofs
set_option maxHeartbeats 8000000
set_option maxRecDepth 20000
attribute [local irreducible] WalkL Walk

/-! ### The document's greatest yields are those of the best sky -/

theorem best_in {p : Plant} {h : Hour} (hh : hourB h = true) : insideB (bestW p h) h = true := by
  have h1 := hourB_iff.1 hh
  rw [inside_iff]
  unfold bestW
  dsimp only
  split
  · rename_i q
    have q : p.stop < h.wind.hi ∧ p.stop ≥ h.wind.lo := by simpa using q
    omega
  · omega

theorem best_most {p : Plant} (hg : PlantGood p) {h : Hour} (hh : hourB h = true) {s : Sky} (hs : insideB s h = true) (j : Int) : yieldI p j s ≤ yieldI p j (bestW p h) := by
  have h1 := hourB_iff.1 hh
  have h2 := inside_iff.1 hs
  have hgain := hg.gain
  have hst := hg.start
  have hx := getI_in hg.sunIn (by omega) j
  have e1 : getI p.sun j * (100 - s.rain) ≤ getI p.sun j * (100 - h.rain.lo) := Int.mul_le_mul_of_nonneg_left (by omega) hx.1
  have e2 : getI p.sun j * (100 - s.rain) / 100 ≤ getI p.sun j * (100 - h.rain.lo) / 100 := Int.ediv_le_ediv (by decide) e1
  have hbr : (bestW p h).rain = h.rain.lo := rfl
  have hbw : (bestW p h).wind = if decide (p.stop < h.wind.hi) && decide (p.stop ≥ h.wind.lo) then p.stop else h.wind.hi := rfl
  have hbi := inside_iff.1 (best_in (p := p) hh)
  unfold yieldI
  rw [hbr]
  generalize (bestW p h).wind = w at hbw hbi ⊢
  have g0 : 0 ≤ p.gain * w := Int.mul_nonneg hgain.1 (by omega)
  have key : (if withinB s.wind p.start p.stop then p.gain * s.wind else 0) ≤ if withinB w p.start p.stop then p.gain * w else 0 := by
    have hnn : 0 ≤ if withinB w p.start p.stop then p.gain * w else 0 := by split <;> omega
    by_cases q2 : withinB s.wind p.start p.stop = true
    · have q3 := within_iff.1 q2
      rw [if_pos q2]
      by_cases q1 : (decide (p.stop < h.wind.hi) && decide (p.stop ≥ h.wind.lo)) = true
      · rw [if_pos q1] at hbw
        subst hbw
        rw [if_pos (within_iff.2 (by omega))]
        exact Int.mul_le_mul_of_nonneg_left (by omega) hgain.1
      · rw [if_neg q1] at hbw
        subst hbw
        have q4 : ¬ (p.stop < h.wind.hi ∧ p.stop ≥ h.wind.lo) := by simpa using q1
        rw [if_pos (within_iff.2 (by omega))]
        exact Int.mul_le_mul_of_nonneg_left (by omega) hgain.1
    · rw [if_neg q2]
      exact hnn
  omega

theorem highF_spec (p : Plant) (j : Int) (h : Hour) : ∀ k, (∀ i : Nat, i < k → yieldW p j ⟨h.wind.lo + i, h.rain.lo, h.temp.lo⟩ ≤ yieldW p j (highF p j h k)) ∧ ∃ i : Nat, i < k + 1 ∧ (i < k ∨ i = 0) ∧ highF p j h k = ⟨h.wind.lo + i, h.rain.lo, h.temp.lo⟩
  | 0 => ⟨fun i hi => by omega, 0, by omega, Or.inr rfl, by simp [highF]⟩
  | k + 1 => by
    obtain ⟨h1, i, h2, h3, h4⟩ := highF_spec p j h k
    rw [highF]
    by_cases hc : yieldW p j ⟨h.wind.lo + k, h.rain.lo, h.temp.lo⟩ > yieldW p j (highF p j h k)
    · rw [if_pos hc]
      refine ⟨fun i hi => ?_, k, by omega, by omega, rfl⟩
      rcases Nat.lt_succ_iff_lt_or_eq.1 hi with h5 | rfl
      · have := h1 i h5; omega
      · exact Int.le_refl _
    · rw [if_neg hc]
      refine ⟨fun i hi => ?_, i, by omega, by omega, h4⟩
      rcases Nat.lt_succ_iff_lt_or_eq.1 hi with h5 | rfl
      · exact h1 i h5
      · omega

theorem high_best {p : Plant} (hg : PlantGood p) {h : Hour} (hh : hourB h = true) (j : Int) : yieldW p j (highF p j h (windsN h)) = yieldW p j (bestW p h) := by
  have hb := hourB_iff.1 hh
  have hN : (windsN h : Int) = h.wind.hi - h.wind.lo + 1 := by unfold windsN; omega
  obtain ⟨h1, i, h2, h3, h4⟩ := highF_spec p j h (windsN h)
  have hin : insideB (highF p j h (windsN h)) h = true := by
    rw [h4, inside_iff]
    dsimp only
    omega
  have hw := best_in (p := p) hh
  have hwi := inside_iff.1 hw
  have e1 := yield_eq hg (skyOk_of hin hh) j
  have e2 := yield_eq hg (skyOk_of hw hh) j
  have e3 := best_most hg hh hin j
  have e4 := h1 ((bestW p h).wind - h.wind.lo).toNat (by omega)
  have e5 : (⟨h.wind.lo + (((bestW p h).wind - h.wind.lo).toNat : Nat), h.rain.lo, h.temp.lo⟩ : Sky) = bestW p h := by
    have : h.wind.lo + (((bestW p h).wind - h.wind.lo).toNat : Int) = (bestW p h).wind := by omega
    rw [this]
    rfl
  rw [e5] at e4
  omega

theorem best_point {p : Plant} (hg : PlantGood p) (s : Sky) : bestW p (pointH s) = s := by
  unfold bestW pointH
  dsimp only
  split
  · rename_i q
    have q : p.stop < s.wind ∧ p.stop ≥ s.wind := by simpa using q
    omega
  · rfl

theorem skies_high {p : Plant} (hg : PlantGood p) {l : List Hour} (hl : l ∈ p.scen) {j : Nat} (hj : j < p.sun.length) :
    yieldW p j (skiesP p l j).2 = yieldW p j (bestW p (hourAt (seenHours p.seen l) (j : Int))) := by
  have hsp := sights_spec hg.sights
  have hlen := hg.fore.len l hl
  have hsun := hg.sun
  have hsa := seenHours_at (seen := p.seen) (l := l) j (sight_range hg hl) hsp.2.1
  unfold skiesP
  cases hf : p.seen.find? (fun s => s.hour == (j : Int)) with
  | some s =>
    have h1 := List.mem_of_find?_eq_some hf
    have h2 := List.find?_some hf
    rw [hsa.1 s h1 (by simpa using h2), best_point hg]
  | none =>
    have h1 := List.find?_eq_none.1 hf
    rw [hsa.2 (fun s hs he => h1 s hs (by simpa using he))]
    exact high_best hg (hg.fore.hour l hl _ (List.mem_of_getElem? (hourAt_get (i := (j : Int)) ⟨by omega, by omega⟩))) j
end Go.Ab
namespace Go.Ab
open Go.RowKit Go.Proofs
set_option maxHeartbeats 8000000
set_option maxRecDepth 20000
attribute [local irreducible] WalkL Walk

/-! ### PowerWithin -/

def hitB (p : Plant) (h : Nat) (lo r t : Int) (n : Nat) : Bool := (List.range n).any fun (i : Nat) => yieldW p (h : Int) ⟨lo + (i : Int), r, 0⟩ == t
theorem hitB_succ (p : Plant) (h : Nat) (lo r t : Int) (n : Nat) : hitB p h lo r t (n + 1) = (hitB p h lo r t n || (yieldW p (h : Int) ⟨lo + (n : Int), r, 0⟩ == t)) := by
  simp [hitB, List.range_succ]
def lowHit (p : Plant) (h : Nat) (t : Int) (x : Hour) : Bool := hitB p h x.wind.lo x.rain.hi t (windsN x)
def highHit (p : Plant) (h : Nat) (t : Int) (x : Hour) : Bool := hitB p h x.wind.lo x.rain.lo t (windsN x)

theorem yield_temp (p : Plant) (h : Int) (a b c d : Int) : yieldW p h ⟨a, b, c⟩ = yieldW p h ⟨a, b, d⟩ := rfl

theorem lowHit_worst {p : Plant} {x : Hour} (hx : hourB x = true) (h : Nat) : lowHit p h (yieldW p h (worstW p x)) x = true := by
  have hb := hourB_iff.1 hx
  have hw := inside_iff.1 (worst_in (p := p) hx)
  have hN : (windsN x : Int) = x.wind.hi - x.wind.lo + 1 := by unfold windsN; omega
  refine List.any_eq_true.2 ⟨((worstW p x).wind - x.wind.lo).toNat, List.mem_range.2 (by omega), ?_⟩
  have : x.wind.lo + (((worstW p x).wind - x.wind.lo).toNat : Int) = (worstW p x).wind := by omega
  rw [this, beq_iff_eq]
  rfl
theorem highHit_best {p : Plant} {x : Hour} (hx : hourB x = true) (h : Nat) : highHit p h (yieldW p h (bestW p x)) x = true := by
  have hb := hourB_iff.1 hx
  have hw := inside_iff.1 (best_in (p := p) hx)
  have hN : (windsN x : Int) = x.wind.hi - x.wind.lo + 1 := by unfold windsN; omega
  refine List.any_eq_true.2 ⟨((bestW p x).wind - x.wind.lo).toNat, List.mem_range.2 (by omega), ?_⟩
  have : x.wind.lo + (((bestW p x).wind - x.wind.lo).toNat : Int) = (bestW p x).wind := by omega
  rw [this, beq_iff_eq]
  rfl

theorem minL_spec : ∀ {l : List Int}, l ≠ [] → minL l ∈ l ∧ ∀ x ∈ l, minL l ≤ x
  | [], h => absurd rfl h
  | a :: l, _ => by
    have key : ∀ (l : List Int) (a : Int), (l.foldl min a = a ∨ l.foldl min a ∈ l) ∧ l.foldl min a ≤ a ∧ ∀ x ∈ l, l.foldl min a ≤ x := by
      intro l
      induction l with
      | nil => intro a; exact ⟨Or.inl rfl, Int.le_refl _, fun x h => by simp at h⟩
      | cons b l ih =>
        intro a
        obtain ⟨h1, h2, h3⟩ := ih (min a b)
        rw [List.foldl_cons]
        refine ⟨?_, by omega, fun x hx => ?_⟩
        · rcases h1 with h1 | h1
          · by_cases hc : a ≤ b
            · left; omega
            · right; rw [h1, show min a b = b by omega]; simp
          · right; simp [h1]
        · rcases List.mem_cons.1 hx with rfl | hx
          · omega
          · exact h3 x hx
    obtain ⟨h1, h2, h3⟩ := key l a
    rw [minL]
    refine ⟨?_, fun x hx => ?_⟩
    · rcases h1 with h1 | h1
      · rw [h1]; simp
      · simp [h1]
    · rcases List.mem_cons.1 hx with rfl | hx
      · exact h2
      · exact h3 x hx
theorem maxL_spec : ∀ {l : List Int}, l ≠ [] → maxL l ∈ l ∧ ∀ x ∈ l, x ≤ maxL l
  | [], h => absurd rfl h
  | a :: l, _ => by
    have key : ∀ (l : List Int) (a : Int), (l.foldl max a = a ∨ l.foldl max a ∈ l) ∧ a ≤ l.foldl max a ∧ ∀ x ∈ l, x ≤ l.foldl max a := by
      intro l
      induction l with
      | nil => intro a; exact ⟨Or.inl rfl, Int.le_refl _, fun x h => by simp at h⟩
      | cons b l ih =>
        intro a
        obtain ⟨h1, h2, h3⟩ := ih (max a b)
        rw [List.foldl_cons]
        refine ⟨?_, by omega, fun x hx => ?_⟩
        · rcases h1 with h1 | h1
          · by_cases hc : b ≤ a
            · left; omega
            · right; rw [h1, show max a b = b by omega]; simp
          · right; simp [h1]
        · rcases List.mem_cons.1 hx with rfl | hx
          · omega
          · exact h3 x hx
    obtain ⟨h1, h2, h3⟩ := key l a
    rw [maxL]
    refine ⟨?_, fun x hx => ?_⟩
    · rcases h1 with h1 | h1
      · rw [h1]; simp
      · simp [h1]
    · rcases List.mem_cons.1 hx with rfl | hx
      · exact h2
      · exact h3 x hx

/-- What the statement asks of each hour. -/
theorem within_spec {p : Plant} (hg : PlantGood p) {m : List Sky} (hw : weB p.scen p.seen m = true) {h : Nat} (hh : h < p.sun.length) :
    (minL (lowsG (gridOf p) h) ≤ yieldW p h (skyAt m h) ∧ yieldW p h (skyAt m h) ≤ maxL (highsG (gridOf p) h)) ∧
    ((gridOf p).scen.any fun l => lowHit p h (minL (lowsG (gridOf p) h)) (hourAt l (h : Int))) = true ∧
    ((gridOf p).scen.any fun l => highHit p h (maxL (highsG (gridOf p) h)) (hourAt l (h : Int))) = true := by
  obtain ⟨H, hgo, _⟩ := grid_good hg
  have hne := hgo.scen.1
  have hml := ((we_iff hg).1 hw).1
  have hsk := we_skies hg hw
  obtain ⟨l, hl, he⟩ := List.any_eq_true.1 (we_grid hg hw)
  obtain ⟨hll, hlh⟩ := scen_ok hg hl
  have hin := (eqAll_iff (by omega)).1 he h (by omega)
  have hhb := hlh h (by omega)
  have e0 := yield_eq hg (hsk h (by omega)) (h : Int)
  have e1 := yield_eq hg (skyOk_of (worst_in (p := p) hhb) hhb) (h : Int)
  have e2 := yield_eq hg (skyOk_of (best_in (p := p) hhb) hhb) (h : Int)
  have c1 := worst_least hg hhb hin (h : Int)
  have c2 := best_most hg hhb hin (h : Int)
  have n1 : lowsG (gridOf p) h ≠ [] := fun e => hne (List.map_eq_nil_iff.1 e)
  have n2 : highsG (gridOf p) h ≠ [] := fun e => hne (List.map_eq_nil_iff.1 e)
  obtain ⟨a1, a2⟩ := minL_spec n1
  obtain ⟨b1, b2⟩ := maxL_spec n2
  have a3 := a2 _ (List.mem_map.2 ⟨l, hl, rfl⟩)
  have b3 := b2 _ (List.mem_map.2 ⟨l, hl, rfl⟩)
  have hpe : (gridOf p).p = p := rfl
  rw [hpe] at a3 b3
  refine ⟨by omega, ?_, ?_⟩
  · obtain ⟨l1, h1, h2⟩ := List.mem_map.1 a1
    refine List.any_eq_true.2 ⟨l1, h1, ?_⟩
    rw [← h2, hpe]
    exact lowHit_worst ((scen_ok hg h1).2 h (by have := (scen_ok hg h1).1; omega)) h
  · obtain ⟨l1, h1, h2⟩ := List.mem_map.1 b1
    refine List.any_eq_true.2 ⟨l1, h1, ?_⟩
    rw [← h2, hpe]
    exact highHit_best ((scen_ok hg h1).2 h (by have := (scen_ok hg h1).1; omega)) h
end Go.Ab
namespace Go.Ab
open Go.RowKit Go.Proofs
set_option maxHeartbeats 8000000
set_option maxRecDepth 20000
attribute [local irreducible] WalkL Walk

theorem seen_step {p : Plant} (hg : PlantGood p) {l : List Hour} (hl : l ∈ p.scen) {h k : Nat} (hh : h < p.sun.length) {s : Sight} (hs : p.seen[k]? = some s) :
    hourAt (seenHours (p.seen.take (k + 1)) l) (h : Int) = if s.hour == (h : Int) then pointH s.sky else hourAt (seenHours (p.seen.take k) l) (h : Int) := by
  have hr := sight_range hg hl s (List.mem_of_getElem? hs)
  have e : seenHours (p.seen.take (k + 1)) l = (seenHours (p.seen.take k) l).set s.hour.toNat (pointH s.sky) := foldl_take_succ _ _ _ _ _ hs
  have hlen := seenHours_len (p.seen.take k) l
  rw [e, hourAt_set (by omega)]
  by_cases hq : s.hour = (h : Int)
  · rw [if_pos (by omega), if_pos (by simpa using hq)]
  · rw [if_neg (by omega), if_neg (by simpa using hq)]

theorem f10 (p : Plant) (m : List Sky) (hs : PlantSmall p) (hml : m.length < 2 ^ 30) : Fn Try.prog 10 [.agg p.cells, .sl (skyRows m)] (.bool true) := by
  have h14 := f14 p hs
  have h15 := f15
  cases hv : validB p
  case false =>
    rw [hv, Plant.cells] at h14
    refine fn_walk 199 Try.call10 Try.func10 rfl (by decide) fun J => ?_
    simp (maxSteps := 4000000) only [go_sem, St.start, Try.ntmps10, Try.results10, Plant.cells]
    repeat (first | refine walkL_true rfl ?_ | refine walkL_false rfl ?_ | refine walkL_seq ?_ | refine walkL_skip ?_ | refine walkL_block ?_ | (refine walkL_region fun K hK => ?_; simp (maxSteps := 4000000) only [go_sem]; (repeat (first | (refine ⟨_, .lent (hf := h14) (hd := rfl) (hr := rfl), ?_⟩; simp (maxSteps := 4000000) only [go_sem]) | (refine ⟨_, .lent (hf := h15) (hd := rfl) (hr := rfl), ?_⟩; simp (maxSteps := 4000000) only [go_sem]) | (refine ⟨_, .given (hf := h14) (hd := rfl) (ha := rfl), ?_⟩; simp (maxSteps := 4000000) only [go_sem]) | (refine ⟨_, .given (hf := h15) (hd := rfl) (ha := rfl), ?_⟩; simp (maxSteps := 4000000) only [go_sem]))); refine hK _ ?_; clear hK K) | refine walkL_nil ?_ | refine walkL_ret ?_ | refine walkL_exit ?_ | refine blockA_here ?_ | refine blockA_other rfl ?_ | refine blockA_ret ?_ | refine blockA_normal ?_ | refine thenA_ret ?_ | refine thenA_exit ?_ | refine thenA_normal ?_)
    simp (maxSteps := 4000000) only [go_sem]
  case true =>
  obtain ⟨hz, hg, hH, hrt⟩ := asked hv
  rw [hv] at h14
  have h29 := f29 p m hg.fore hg.sights hml
  cases q3 : weB p.scen p.seen m
  case false =>
    rw [Plant.cells] at h14 h29
    rw [q3] at h29
    refine fn_walk 199 Try.call10 Try.func10 rfl (by decide) fun J => ?_
    simp (maxSteps := 4000000) only [go_sem, St.start, Try.ntmps10, Try.results10, Plant.cells]
    repeat (first | refine walkL_true rfl ?_ | refine walkL_false rfl ?_ | refine walkL_seq ?_ | refine walkL_skip ?_ | refine walkL_block ?_ | (refine walkL_region fun K hK => ?_; simp (maxSteps := 4000000) only [go_sem]; (repeat (first | (refine ⟨_, .lent (hf := h14) (hd := rfl) (hr := rfl), ?_⟩; simp (maxSteps := 4000000) only [go_sem]) | (refine ⟨_, .lent (hf := h29) (hd := rfl) (hr := rfl), ?_⟩; simp (maxSteps := 4000000) only [go_sem]) | (refine ⟨_, .lent (hf := h15) (hd := rfl) (hr := rfl), ?_⟩; simp (maxSteps := 4000000) only [go_sem]) | (refine ⟨_, .given (hf := h14) (hd := rfl) (ha := rfl), ?_⟩; simp (maxSteps := 4000000) only [go_sem]) | (refine ⟨_, .given (hf := h29) (hd := rfl) (ha := rfl), ?_⟩; simp (maxSteps := 4000000) only [go_sem]) | (refine ⟨_, .given (hf := h15) (hd := rfl) (ha := rfl), ?_⟩; simp (maxSteps := 4000000) only [go_sem]))); refine hK _ ?_; clear hK K) | refine walkL_nil ?_ | refine walkL_ret ?_ | refine walkL_exit ?_ | refine blockA_here ?_ | refine blockA_other rfl ?_ | refine blockA_ret ?_ | refine blockA_normal ?_ | refine thenA_ret ?_ | refine thenA_exit ?_ | refine thenA_normal ?_)
    simp (maxSteps := 4000000) only [go_sem]
  case true =>
  rw [q3] at h29
  have hlen := ((we_iff hg).1 q3).1
  have h32 := f32 p hs
  have e32 : yieldsP p = (spansR (gridOf p) p.sun.length, 0) := by unfold yieldsP; rw [openE_nil, if_pos hz]
  rw [e32] at h32
  have h33 := f33 p.scen p.seen hs.fore hs.seen
  rw [look_good hg, if_pos rfl] at h33
  have hnl := nums_len (possL p.scen p.seen)
  have hpl := possFrom_len p.seen p.scen 0
  change (possL p.scen p.seen).length ≤ _ at hpl
  have hF := hg.fore.scen
  have hsl := hg.sun
  have hss := hs.seen
  have hspec := fun {h : Nat} (hh : h < p.sun.length) => within_spec hg q3 hh
  have hgs : (gridOf p).scen = scensOf (possL p.scen p.seen) := rfl
  have hscn : ∀ k : Nat, k < (possL p.scen p.seen).length → ∃ (i : Int) (l : List Hour), (numsOf (possL p.scen p.seen))[k]? = some i ∧ 0 ≤ i ∧ p.scen[i.toNat]? = some l ∧ (gridOf p).scen[k]? = some (seenHours p.seen l) := fun k hk => by
    obtain ⟨i, hi⟩ : ∃ i, (numsOf (possL p.scen p.seen))[k]? = some i := ⟨_, List.getElem?_eq_getElem (by omega)⟩
    obtain ⟨h1, l, h2, h3, h4, h5⟩ := nums_get hi
    exact ⟨i, l, hi, h1, h2, by rw [hgs, scensOf, List.getElem?_map, h5]; rfl⟩
  have hgl : (gridOf p).scen.length = (possL p.scen p.seen).length := by rw [hgs, scens_len]
  obtain ⟨N, eN⟩ : ∃ N, N = numsOf (possL p.scen p.seen) := ⟨_, rfl⟩
  rw [← eN] at h33 hnl
  simp only [← eN] at hscn
  obtain ⟨S, hS⟩ : ∃ S, S = (gridOf p).scen := ⟨_, rfl⟩
  simp only [← hS] at hspec hscn
  rw [← hS] at hgl
  obtain ⟨lo, hlo⟩ : ∃ lo : Nat → Int, ∀ h, lo h = minL (lowsG (gridOf p) h) := ⟨_, fun _ => rfl⟩
  obtain ⟨hi, hhi⟩ : ∃ hi : Nat → Int, ∀ h, hi h = maxL (highsG (gridOf p) h) := ⟨_, fun _ => rfl⟩
  simp only [← hlo, ← hhi] at hspec
  have hrow : ∀ h : Nat, h < p.sun.length → (spansR (gridOf p) p.sun.length)[h]? = some [.i (lo h), .i (hi h)] := fun h hh => by
    rw [spansR, List.getElem?_map, List.getElem?_range hh, hlo, hhi]
    rfl
  have hYl : (spansR (gridOf p) p.sun.length).length = m.length := by rw [spansR_len, hlen]
  obtain ⟨Y, hY⟩ : ∃ Y, Y = spansR (gridOf p) p.sun.length := ⟨_, rfl⟩
  rw [← hY] at h32 hYl
  simp only [← hY] at hrow
  have n1 : ((Y.length : Int) != m.length) = false := by simp [hYl]
  rw [Plant.cells] at h14 h29 h32
  refine fn_walk 199 Try.call10 Try.func10 rfl (by decide) fun J => ?_
  simp (maxSteps := 4000000) only [go_sem, St.start, Try.ntmps10, Try.results10, Plant.cells]
  repeat (first | refine walkL_true rfl ?_ | refine walkL_false rfl ?_ | refine walkL_seq ?_ | refine walkL_skip ?_ | refine walkL_block ?_ | (refine walkL_region fun K hK => ?_; simp (maxSteps := 4000000) only [go_sem, n1]; (repeat (first | (refine ⟨_, .lent (hf := h14) (hd := rfl) (hr := rfl), ?_⟩; simp (maxSteps := 4000000) only [go_sem, n1]) | (refine ⟨_, .lent (hf := h29) (hd := rfl) (hr := rfl), ?_⟩; simp (maxSteps := 4000000) only [go_sem, n1]) | (refine ⟨_, .lent (hf := h15) (hd := rfl) (hr := rfl), ?_⟩; simp (maxSteps := 4000000) only [go_sem, n1]) | (refine ⟨_, .lent (hf := h32) (hd := rfl) (hr := rfl), ?_⟩; simp (maxSteps := 4000000) only [go_sem, n1]) | (refine ⟨_, .lent (hf := h33) (hd := rfl) (hr := rfl), ?_⟩; simp (maxSteps := 4000000) only [go_sem, n1]) | (refine ⟨_, .given (hf := h14) (hd := rfl) (ha := rfl), ?_⟩; simp (maxSteps := 4000000) only [go_sem, n1]) | (refine ⟨_, .given (hf := h29) (hd := rfl) (ha := rfl), ?_⟩; simp (maxSteps := 4000000) only [go_sem, n1]) | (refine ⟨_, .given (hf := h15) (hd := rfl) (ha := rfl), ?_⟩; simp (maxSteps := 4000000) only [go_sem, n1]) | (refine ⟨_, .given (hf := h32) (hd := rfl) (ha := rfl), ?_⟩; simp (maxSteps := 4000000) only [go_sem, n1]) | (refine ⟨_, .given (hf := h33) (hd := rfl) (ha := rfl), ?_⟩; simp (maxSteps := 4000000) only [go_sem, n1]))); refine hK _ ?_; clear hK K) | refine walkL_nil ?_ | refine walkL_ret ?_ | refine walkL_exit ?_ | refine blockA_here ?_ | refine blockA_other rfl ?_ | refine blockA_ret ?_ | refine blockA_normal ?_ | refine thenA_ret ?_ | refine thenA_exit ?_ | refine thenA_normal ?_)
  refine walkL_loopS (fun (h : Nat) => [(9, .d (.i h)), (10, .undef), (11, .undef), (12, .undef), (13, .undef), (14, .undef), (15, .undef), (16, .undef), (17, .undef), (18, .undef)]) (fun _ => []) (fun h => h ≤ Y.length) (fun h => Y.length - h) 0 ?_ (Nat.zero_le _) ?_
  · simp (maxSteps := 4000000) only [go_sem]
    refine weak_of [] ?_ ?_ rfl rfl <;> simp [lessT, lessM, lessB, AV.less]
  · intro h hh
    simp (maxSteps := 4000000) only [go_sem]
    repeat (first | refine walkL_seq ?_ | refine walkL_skip ?_ | refine walkL_block ?_ | (refine walkL_region fun K hK => ?_; simp (maxSteps := 4000000) only [go_sem]; refine hK _ ?_; clear hK K) | refine walkL_nil ?_ | refine walkL_ret ?_ | refine walkL_exit ?_ | refine blockA_here ?_ | refine blockA_other rfl ?_ | refine blockA_ret ?_ | refine blockA_normal ?_ | refine thenA_ret ?_ | refine thenA_exit ?_ | refine thenA_normal ?_)
    refine walkL_cond rfl (fun hb => ?_) (fun hb => ?_)
    · have hlt : h < Y.length := by simpa using hb
      have hw : IntKind.i64.wrap ((h : Int) + 1) = ((h + 1 : Nat) : Int) := by rw [wr_small (by omega)]; simp
      have hhs : h < p.sun.length := by omega
      have g1 := hrow h hhs
      have g2 := skyRows_at (skyAt_get (l := m) (i := h) (by omega))
      have h31 := f31 p h (skyAt m h) ⟨by omega, by omega⟩
      obtain ⟨⟨y1, y2⟩, y3, y4⟩ := hspec hhs
      obtain ⟨y, hy⟩ : ∃ y, y = yieldW p h (skyAt m h) := ⟨_, rfl⟩
      rw [← hy] at y1 y2 h31
      have d1 : decide (y < lo h) = false := by simp; omega
      have d2 : decide (y > hi h) = false := by simp; omega
      rw [Plant.cells, Sky.row] at h31
      repeat (first | refine walkL_true rfl ?_ | refine walkL_false rfl ?_ | refine walkL_seq ?_ | refine walkL_skip ?_ | refine walkL_block ?_ | (refine walkL_region fun K hK => ?_; simp (maxSteps := 4000000) only [go_sem, g1, g2, d1, d2, Sky.row]; (repeat (first | (refine ⟨_, .lent (hf := h31) (hd := rfl) (hr := rfl), ?_⟩; simp (maxSteps := 4000000) only [go_sem, g1, g2, d1, d2, Sky.row]) | (refine ⟨_, .given (hf := h31) (hd := rfl) (ha := rfl), ?_⟩; simp (maxSteps := 4000000) only [go_sem, g1, g2, d1, d2, Sky.row]))); refine hK _ ?_; clear hK K) | (refine walkL_drawn (by kernel_rfl) (by kernel_rfl) fun K hK => ?_; simp (maxSteps := 4000000) only [go_sem, g1, g2, d1, d2, Sky.row]; (repeat (first | (refine ⟨_, .fn (hf := h31) (hd := rfl) (hr := .inl rfl), ?_⟩; simp (maxSteps := 4000000) only [go_sem, g1, g2, d1, d2, Sky.row]))); refine ⟨by kernel_rfl, hK _ ?_⟩; clear hK K) | refine walkL_nil ?_ | refine walkL_ret ?_ | refine walkL_exit ?_ | refine blockA_here ?_ | refine blockA_other rfl ?_ | refine blockA_ret ?_ | refine blockA_normal ?_ | refine thenA_ret ?_ | refine thenA_exit ?_ | refine thenA_normal ?_)
      refine walkL_loopS (fun (i : Nat) => [(13, .d (.i i)), (11, .d (.bool ((S.take i).any fun l => lowHit p h (lo h) (hourAt l (h : Int))))), (12, .d (.bool ((S.take i).any fun l => highHit p h (hi h) (hourAt l (h : Int))))), (14, .undef), (15, .undef), (16, .undef), (17, .undef), (18, .undef)]) (fun _ => []) (fun i => i ≤ N.length) (fun i => N.length - i) 0 ?_ (Nat.zero_le _) ?_
      · simp (maxSteps := 4000000) only [go_sem]
        refine weak_of [] ?_ ?_ rfl rfl <;> simp [lessT, lessM, lessB, AV.less]
        all_goals first | done | rfl | exact ⟨rfl, rfl⟩ | exact ⟨⟨rfl, rfl⟩, rfl, rfl⟩
      · intro i hi2
        simp (maxSteps := 4000000) only [go_sem]
        repeat (first | refine walkL_seq ?_ | refine walkL_skip ?_ | refine walkL_block ?_ | (refine walkL_region fun K hK => ?_; simp (maxSteps := 4000000) only [go_sem]; refine hK _ ?_; clear hK K) | refine walkL_nil ?_ | refine walkL_ret ?_ | refine walkL_exit ?_ | refine blockA_here ?_ | refine blockA_other rfl ?_ | refine blockA_ret ?_ | refine blockA_normal ?_ | refine thenA_ret ?_ | refine thenA_exit ?_ | refine thenA_normal ?_)
        refine walkL_cond rfl (fun hb => ?_) (fun hb => ?_)
        · have hlti : i < N.length := by simpa using hb
          have hwi : IntKind.i64.wrap ((i : Int) + 1) = ((i + 1 : Nat) : Int) := by rw [wr_small (by omega)]; simp
          obtain ⟨v, l, j1, j2, j3, j4⟩ := hscn i (by omega)
          have hlm := List.mem_of_getElem? j3
          have hll := hg.fore.len l hlm
          have gi := intRows_at j1
          have gs := scenRows_at j3
          have gh := hourAt_get (l := l) (i := (h : Int)) ⟨by omega, by omega⟩
          have g3 := hourRows_at gh
          rw [Int.toNat_natCast] at g3
          obtain ⟨a1, ha1⟩ : ∃ a, a = ((S.take i).any fun l => lowHit p h (lo h) (hourAt l (h : Int))) := ⟨_, rfl⟩
          obtain ⟨a2, ha2⟩ : ∃ a, a = ((S.take i).any fun l => highHit p h (hi h) (hourAt l (h : Int))) := ⟨_, rfl⟩
          have hx0 : hourAt (seenHours (p.seen.take 0) l) (h : Int) = hourAt l (h : Int) := rfl
          rw [← ha1, ← ha2]
          repeat (first | refine walkL_seq ?_ | refine walkL_skip ?_ | refine walkL_block ?_ | (refine walkL_region fun K hK => ?_; simp (maxSteps := 4000000) only [go_sem, gi, gs, g3, j2, Hour.row]; refine hK _ ?_; clear hK K) | (refine walkL_drawn (by kernel_rfl) (by kernel_rfl) fun K hK => ?_; simp (maxSteps := 4000000) only [go_sem, gi, gs, g3, j2, Hour.row]; refine ⟨by kernel_rfl, hK _ ?_⟩; clear hK K) | refine walkL_nil ?_ | refine walkL_ret ?_ | refine walkL_exit ?_ | refine blockA_here ?_ | refine blockA_other rfl ?_ | refine blockA_ret ?_ | refine blockA_normal ?_ | refine thenA_ret ?_ | refine thenA_exit ?_ | refine thenA_normal ?_)
          refine walkL_loopS (fun (k : Nat) => [(17, .d (.i k))]) (fun k => [(15, some (.box [.d (.i (hourAt (seenHours (p.seen.take k) l) (h : Int)).wind.lo), .d (.i (hourAt (seenHours (p.seen.take k) l) (h : Int)).wind.hi)])), (16, some (.box [.d (.i (hourAt (seenHours (p.seen.take k) l) (h : Int)).rain.lo), .d (.i (hourAt (seenHours (p.seen.take k) l) (h : Int)).rain.hi)]))]) (fun k => k ≤ p.seen.length) (fun k => p.seen.length - k) 0 ?_ (Nat.zero_le _) ?_
          · simp (maxSteps := 4000000) only [go_sem, hx0]
            refine weak_of [] ?_ ?_ rfl rfl <;> simp [lessT, lessM, lessB, AV.less]
            all_goals first | done | rfl | exact ⟨rfl, rfl⟩ | exact ⟨⟨rfl, rfl⟩, rfl, rfl⟩
          · intro k hk
            simp (maxSteps := 4000000) only [go_sem]
            repeat (first | refine walkL_seq ?_ | refine walkL_skip ?_ | refine walkL_block ?_ | (refine walkL_region fun K hK => ?_; simp (maxSteps := 4000000) only [go_sem]; refine hK _ ?_; clear hK K) | refine walkL_nil ?_ | refine walkL_ret ?_ | refine walkL_exit ?_ | refine blockA_here ?_ | refine blockA_other rfl ?_ | refine blockA_ret ?_ | refine blockA_normal ?_ | refine thenA_ret ?_ | refine thenA_exit ?_ | refine thenA_normal ?_)
            refine walkL_cond rfl (fun hb => ?_) (fun hb => ?_)
            · have hltk : k < p.seen.length := by simpa using hb
              have hwk : IntKind.i64.wrap ((k : Int) + 1) = ((k + 1 : Nat) : Int) := by rw [wr_small (by omega)]; simp
              obtain ⟨s, hs1⟩ : ∃ s, p.seen[k]? = some s := ⟨_, List.getElem?_eq_getElem hltk⟩
              have gk := sightRows_at hs1
              have hst := seen_step hg hlm hhs hs1
              cases q : (s.hour == (h : Int))
              · rw [q, if_neg (by decide)] at hst
                repeat (first | refine walkL_true rfl ?_ | refine walkL_false rfl ?_ | refine walkL_seq ?_ | refine walkL_skip ?_ | refine walkL_block ?_ | (refine walkL_region fun K hK => ?_; simp (maxSteps := 4000000) only [go_sem, gk, q, hwk, Sight.row]; refine hK _ ?_; clear hK K) | (refine walkL_drawn (by kernel_rfl) (by kernel_rfl) fun K hK => ?_; simp (maxSteps := 4000000) only [go_sem, gk, q, hwk, Sight.row]; refine ⟨by kernel_rfl, hK _ ?_⟩; clear hK K) | refine walkL_nil ?_ | refine walkL_ret ?_ | refine walkL_exit ?_ | refine blockA_here ?_ | refine blockA_other rfl ?_ | refine blockA_ret ?_ | refine blockA_normal ?_ | refine thenA_ret ?_ | refine thenA_exit ?_ | refine thenA_normal ?_)
                refine ⟨rfl, k + 1, ?_, hltk, by omega⟩
                rw [hst]
                refine weak_of [] ?_ ?_ rfl rfl <;> simp [lessT, lessM, lessB, AV.less]
                all_goals first | done | rfl | exact ⟨rfl, rfl⟩ | exact ⟨⟨rfl, rfl⟩, rfl, rfl⟩
              · rw [q, if_pos rfl] at hst
                repeat (first | refine walkL_true rfl ?_ | refine walkL_false rfl ?_ | refine walkL_seq ?_ | refine walkL_skip ?_ | refine walkL_block ?_ | (refine walkL_region fun K hK => ?_; simp (maxSteps := 4000000) only [go_sem, gk, q, hwk, Sight.row]; refine hK _ ?_; clear hK K) | (refine walkL_drawn (by kernel_rfl) (by kernel_rfl) fun K hK => ?_; simp (maxSteps := 4000000) only [go_sem, gk, q, hwk, Sight.row]; refine ⟨by kernel_rfl, hK _ ?_⟩; clear hK K) | refine walkL_nil ?_ | refine walkL_ret ?_ | refine walkL_exit ?_ | refine blockA_here ?_ | refine blockA_other rfl ?_ | refine blockA_ret ?_ | refine blockA_normal ?_ | refine thenA_ret ?_ | refine thenA_exit ?_ | refine thenA_normal ?_)
                refine ⟨rfl, k + 1, ?_, hltk, by omega⟩
                rw [hst]
                refine weak_of [] ?_ ?_ rfl rfl <;> simp [lessT, lessM, lessB, AV.less]
                all_goals first | done | rfl | exact ⟨rfl, rfl⟩ | exact ⟨⟨rfl, rfl⟩, rfl, rfl⟩
            · have he : k = p.seen.length := by (have : ¬ k < p.seen.length := by simpa using hb); omega
              subst he
              rw [List.take_length]
              have hmS : seenHours p.seen l ∈ (gridOf p).scen := by rw [← hS]; exact List.mem_of_getElem? j4
              have hxb := hourB_iff.1 ((scen_ok hg hmS).2 h (by have := (scen_ok hg hmS).1; omega))
              have n1 : ((S.take (i + 1)).any fun l => lowHit p h (lo h) (hourAt l (h : Int))) = (a1 || lowHit p h (lo h) (hourAt (seenHours p.seen l) (h : Int))) := by
                rw [List.take_add_one, j4, ha1]; simp
              have n2 : ((S.take (i + 1)).any fun l => highHit p h (hi h) (hourAt l (h : Int))) = (a2 || highHit p h (hi h) (hourAt (seenHours p.seen l) (h : Int))) := by
                rw [List.take_add_one, j4, ha2]; simp
              obtain ⟨x, hx⟩ : ∃ x, x = hourAt (seenHours p.seen l) (h : Int) := ⟨_, rfl⟩
              rw [← hx] at hxb n1 n2 ⊢
              have hW : (windsN x : Int) = x.wind.hi - x.wind.lo + 1 := by unfold windsN; omega
              repeat (first | refine walkL_seq ?_ | refine walkL_skip ?_ | refine walkL_block ?_ | (refine walkL_region fun K hK => ?_; simp (maxSteps := 4000000) only [go_sem]; refine hK _ ?_; clear hK K) | refine walkL_nil ?_ | refine walkL_ret ?_ | refine walkL_exit ?_ | refine blockA_here ?_ | refine blockA_other rfl ?_ | refine blockA_ret ?_ | refine blockA_normal ?_ | refine thenA_ret ?_ | refine thenA_exit ?_ | refine thenA_normal ?_)
              refine walkL_loopS (fun (j : Nat) => [(18, .d (.i (x.wind.lo + j))), (11, .d (.bool (a1 || hitB p h x.wind.lo x.rain.hi (lo h) j))), (12, .d (.bool (a2 || hitB p h x.wind.lo x.rain.lo (hi h) j)))]) (fun _ => []) (fun j => j ≤ windsN x) (fun j => windsN x - j) 0 ?_ (Nat.zero_le _) ?_
              · simp (maxSteps := 4000000) only [go_sem]
                refine weak_of [] ?_ ?_ rfl rfl <;> simp [lessT, lessM, lessB, AV.less]
                all_goals first | done | rfl | simp [hitB]
              · intro j hj
                simp (maxSteps := 4000000) only [go_sem]
                repeat (first | refine walkL_seq ?_ | refine walkL_skip ?_ | refine walkL_block ?_ | (refine walkL_region fun K hK => ?_; simp (maxSteps := 4000000) only [go_sem]; refine hK _ ?_; clear hK K) | refine walkL_nil ?_ | refine walkL_ret ?_ | refine walkL_exit ?_ | refine blockA_here ?_ | refine blockA_other rfl ?_ | refine blockA_ret ?_ | refine blockA_normal ?_ | refine thenA_ret ?_ | refine thenA_exit ?_ | refine thenA_normal ?_)
                refine walkL_cond rfl (fun hb => ?_) (fun hb => ?_)
                · have hb : x.wind.lo + (j : Int) ≤ x.wind.hi := by simpa using hb
                  have hwj : IntKind.i64.wrap (x.wind.lo + (j : Int) + 1) = x.wind.lo + ((j + 1 : Nat) : Int) := by rw [wr_small (by omega)]; omega
                  have z1 := f31 p h ⟨x.wind.lo + j, x.rain.hi, 0⟩ ⟨by omega, by omega⟩
                  have z2 := f31 p h ⟨x.wind.lo + j, x.rain.lo, 0⟩ ⟨by omega, by omega⟩
                  have s1 := hitB_succ p h x.wind.lo x.rain.hi (lo h) j
                  have s2 := hitB_succ p h x.wind.lo x.rain.lo (hi h) j
                  rw [Plant.cells, Sky.row] at z1 z2
                  dsimp only at z1 z2
                  obtain ⟨t1, ht1⟩ : ∃ t, t = yieldW p h ⟨x.wind.lo + j, x.rain.hi, 0⟩ := ⟨_, rfl⟩
                  obtain ⟨t2, ht2⟩ : ∃ t, t = yieldW p h ⟨x.wind.lo + j, x.rain.lo, 0⟩ := ⟨_, rfl⟩
                  rw [← ht1] at z1 s1
                  rw [← ht2] at z2 s2
                  have s3 : (a1 || hitB p h x.wind.lo x.rain.hi (lo h) (j + 1)) = ((a1 || hitB p h x.wind.lo x.rain.hi (lo h) j) || (t1 == lo h)) := by rw [s1, Bool.or_assoc]
                  have s4 : (a2 || hitB p h x.wind.lo x.rain.lo (hi h) (j + 1)) = ((a2 || hitB p h x.wind.lo x.rain.lo (hi h) j) || (t2 == hi h)) := by rw [s2, Bool.or_assoc]
                  obtain ⟨c1, hc1⟩ : ∃ c, c = (a1 || hitB p h x.wind.lo x.rain.hi (lo h) j) := ⟨_, rfl⟩
                  obtain ⟨c2, hc2⟩ : ∃ c, c = (a2 || hitB p h x.wind.lo x.rain.lo (hi h) j) := ⟨_, rfl⟩
                  rw [← hc1] at s3 ⊢
                  rw [← hc2] at s4 ⊢
                  cases c1 <;> cases c2
                  all_goals
                    repeat (first | refine walkL_true rfl ?_ | refine walkL_false rfl ?_ | refine walkL_seq ?_ | refine walkL_skip ?_ | refine walkL_block ?_ | (refine walkL_region fun K hK => ?_; simp (maxSteps := 4000000) only [go_sem, g1, hwj]; (repeat (first | (refine ⟨_, .lent (hf := z1) (hd := rfl) (hr := rfl), ?_⟩; simp (maxSteps := 4000000) only [go_sem, g1, hwj]) | (refine ⟨_, .lent (hf := z2) (hd := rfl) (hr := rfl), ?_⟩; simp (maxSteps := 4000000) only [go_sem, g1, hwj]) | (refine ⟨_, .given (hf := z1) (hd := rfl) (ha := rfl), ?_⟩; simp (maxSteps := 4000000) only [go_sem, g1, hwj]) | (refine ⟨_, .given (hf := z2) (hd := rfl) (ha := rfl), ?_⟩; simp (maxSteps := 4000000) only [go_sem, g1, hwj]))); refine hK _ ?_; clear hK K) | (refine walkL_drawn (by kernel_rfl) (by kernel_rfl) fun K hK => ?_; simp (maxSteps := 4000000) only [go_sem, g1, hwj]; (repeat (first | (refine ⟨_, .fn (hf := z1) (hd := rfl) (hr := .inl rfl), ?_⟩; simp (maxSteps := 4000000) only [go_sem, g1, hwj]) | (refine ⟨_, .fn (hf := z2) (hd := rfl) (hr := .inl rfl), ?_⟩; simp (maxSteps := 4000000) only [go_sem, g1, hwj]))); refine ⟨by kernel_rfl, hK _ ?_⟩; clear hK K) | refine walkL_nil ?_ | refine walkL_ret ?_ | refine walkL_exit ?_ | refine blockA_here ?_ | refine blockA_other rfl ?_ | refine blockA_ret ?_ | refine blockA_normal ?_ | refine thenA_ret ?_ | refine thenA_exit ?_ | refine thenA_normal ?_)
                    refine ⟨rfl, j + 1, ?_, by omega, by omega⟩
                    rw [s3, s4]
                    refine weak_of [] ?_ ?_ rfl rfl <;> simp [lessT, lessM, lessB, AV.less]
                    all_goals first | done | rfl | exact ⟨rfl, rfl⟩ | exact ⟨⟨rfl, rfl⟩, rfl, rfl⟩
                · have hb : ¬ x.wind.lo + (j : Int) ≤ x.wind.hi := by simpa using hb
                  have he : j = windsN x := by omega
                  subst he
                  repeat (first | refine walkL_seq ?_ | refine walkL_skip ?_ | refine walkL_block ?_ | (refine walkL_region fun K hK => ?_; simp (maxSteps := 4000000) only [go_sem, hwi]; refine hK _ ?_; clear hK K) | refine walkL_nil ?_ | refine walkL_ret ?_ | refine walkL_exit ?_ | refine blockA_here ?_ | refine blockA_other rfl ?_ | refine blockA_ret ?_ | refine blockA_normal ?_ | refine thenA_ret ?_ | refine thenA_exit ?_ | refine thenA_normal ?_)
                  refine ⟨rfl, i + 1, ?_, hlti, by omega⟩
                  rw [n1, n2, lowHit, highHit]
                  refine weak_of [] ?_ ?_ rfl rfl <;> simp [lessT, lessM, lessB, AV.less]
                  all_goals first | done | rfl | exact ⟨rfl, rfl⟩ | exact ⟨⟨rfl, rfl⟩, rfl, rfl⟩
        · have he : i = N.length := by (have : ¬ i < N.length := by simpa using hb); omega
          subst he
          rw [hnl, ← hgl, List.take_length, y3, y4]
          repeat (first | refine walkL_true rfl ?_ | refine walkL_false rfl ?_ | refine walkL_seq ?_ | refine walkL_skip ?_ | refine walkL_block ?_ | (refine walkL_region fun K hK => ?_; simp (maxSteps := 4000000) only [go_sem, hw]; refine hK _ ?_; clear hK K) | (refine walkL_drawn (by kernel_rfl) (by kernel_rfl) fun K hK => ?_; simp (maxSteps := 4000000) only [go_sem, hw]; refine ⟨by kernel_rfl, hK _ ?_⟩; clear hK K) | refine walkL_nil ?_ | refine walkL_ret ?_ | refine walkL_exit ?_ | refine blockA_here ?_ | refine blockA_other rfl ?_ | refine blockA_ret ?_ | refine blockA_normal ?_ | refine thenA_ret ?_ | refine thenA_exit ?_ | refine thenA_normal ?_)
          refine ⟨rfl, h + 1, ?_, hlt, by omega⟩
          refine weak_of [] ?_ ?_ rfl rfl <;> simp [lessT, lessM, lessB, AV.less]
    · have he : h = Y.length := by (have : ¬ h < Y.length := by simpa using hb); omega
      subst he
      repeat (first | refine walkL_true rfl ?_ | refine walkL_false rfl ?_ | refine walkL_seq ?_ | refine walkL_skip ?_ | refine walkL_block ?_ | (refine walkL_region fun K hK => ?_; simp (maxSteps := 4000000) only [go_sem]; (repeat (first | (refine ⟨_, .lent (hf := h15) (hd := rfl) (hr := rfl), ?_⟩; simp (maxSteps := 4000000) only [go_sem]) | (refine ⟨_, .given (hf := h15) (hd := rfl) (ha := rfl), ?_⟩; simp (maxSteps := 4000000) only [go_sem]))); refine hK _ ?_; clear hK K) | refine walkL_nil ?_ | refine walkL_ret ?_ | refine walkL_exit ?_ | refine blockA_here ?_ | refine blockA_other rfl ?_ | refine blockA_ret ?_ | refine blockA_normal ?_ | refine thenA_ret ?_ | refine thenA_exit ?_ | refine thenA_normal ?_)
      simp (maxSteps := 4000000) only [go_sem]
end Go.Ab
