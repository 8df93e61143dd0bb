/- A walk engine over abstract states, and the contracts of the functions that the statement reaches: part 6. -/
import Derived.Test.YtlcbalngfpgjdaaWe
set_option linter.unusedVariables false
set_option linter.unusedSimpArgs false
namespace Go.Ab
open Go.RowKit Go.Proofs
set_option maxHeartbeats 8000000
set_option maxRecDepth 20000
attribute [local irreducible] WalkL Walk

theorem f41 (p : Plant) (b : List Int) (hs : PlantSmall p) (hb : b.length < 2 ^ 30) : Fn Try.prog 41 [.agg p.cells, .sl (intRows b)] (.i (worstP p b).2) := by
  have h40 := f40 p b hs hb
  by_cases hz : openE p [b] = 0
  · obtain ⟨hp, hib⟩ := open_plantE hz
    obtain ⟨eH, _, _⟩ := grid_lens (plant_good hp)
    have e : (worstP p b).2 = if (hardF (gridOf p) b).2 = p.sun.length then 3 else 0 := by
      unfold worstP
      rw [if_pos hz, eH]
      split <;> rfl
    rw [e]
    rw [lastsP_good hp hib] at h40
    obtain ⟨n, hn⟩ : ∃ n, n = (hardF (gridOf p) b).2 := ⟨_, rfl⟩
    rw [← hn] at h40 ⊢
    rw [Plant.cells] at h40
    by_cases hq : n = p.sun.length
    · rw [if_pos hq]
      have q : (n == (p.sun.length : Int)) = true := by simpa using hq
      refine fn_walk 23 Try.call41 Try.func41 rfl (by decide) fun J => ?_
      simp (maxSteps := 4000000) only [go_sem, St.start, Try.ntmps41, Try.results41, Plant.cells]
      repeat (first | refine walkL_true rfl ?_ | refine walkL_false rfl ?_ | refine walkL_seq ?_ | refine walkL_skip ?_ | refine walkL_block ?_ | (refine walkL_region fun K hK => ?_; simp (maxSteps := 4000000) only [go_sem, q]; (repeat (first | (refine ⟨_, .lent (hf := h40) (hd := rfl) (hr := rfl), ?_⟩; simp (maxSteps := 4000000) only [go_sem, q]) | (refine ⟨_, .given (hf := h40) (hd := rfl) (ha := rfl), ?_⟩; simp (maxSteps := 4000000) only [go_sem, q]))); refine hK _ ?_; clear hK K) | refine walkL_nil ?_ | refine walkL_ret ?_ | refine walkL_exit ?_ | refine blockA_here ?_ | refine blockA_other rfl ?_ | refine blockA_ret ?_ | refine blockA_normal ?_ | refine thenA_ret ?_ | refine thenA_exit ?_ | refine thenA_normal ?_)
      simp (maxSteps := 4000000) only [go_sem]
    · rw [if_neg hq]
      have q : (n == (p.sun.length : Int)) = false := by simpa using hq
      refine fn_walk 23 Try.call41 Try.func41 rfl (by decide) fun J => ?_
      simp (maxSteps := 4000000) only [go_sem, St.start, Try.ntmps41, Try.results41, Plant.cells]
      repeat (first | refine walkL_true rfl ?_ | refine walkL_false rfl ?_ | refine walkL_seq ?_ | refine walkL_skip ?_ | refine walkL_block ?_ | (refine walkL_region fun K hK => ?_; simp (maxSteps := 4000000) only [go_sem, q]; (repeat (first | (refine ⟨_, .lent (hf := h40) (hd := rfl) (hr := rfl), ?_⟩; simp (maxSteps := 4000000) only [go_sem, q]) | (refine ⟨_, .given (hf := h40) (hd := rfl) (ha := rfl), ?_⟩; simp (maxSteps := 4000000) only [go_sem, q]))); refine hK _ ?_; clear hK K) | refine walkL_nil ?_ | refine walkL_ret ?_ | refine walkL_exit ?_ | refine blockA_here ?_ | refine blockA_other rfl ?_ | refine blockA_ret ?_ | refine blockA_normal ?_ | refine thenA_ret ?_ | refine thenA_exit ?_ | refine thenA_normal ?_)
      simp (maxSteps := 4000000) only [go_sem]
  · have e1 : lastsP p b = (0, openE p [b]) := by unfold lastsP; rw [if_neg hz]
    have e2 : worstP p b = ([], openE p [b]) := by unfold worstP; rw [if_neg hz]
    rw [e1] at h40
    rw [e2]
    rw [Plant.cells] at h40
    obtain ⟨E, hE⟩ : ∃ E, E = openE p [b] := ⟨_, rfl⟩
    rw [← hE] at h40 hz ⊢
    have q : (E == 0) = false := by simpa using hz
    refine fn_walk 23 Try.call41 Try.func41 rfl (by decide) fun J => ?_
    simp (maxSteps := 4000000) only [go_sem, St.start, Try.ntmps41, Try.results41, Plant.cells]
    repeat (first | refine walkL_true rfl ?_ | refine walkL_false rfl ?_ | refine walkL_seq ?_ | refine walkL_skip ?_ | refine walkL_block ?_ | (refine walkL_region fun K hK => ?_; simp (maxSteps := 4000000) only [go_sem, q]; (repeat (first | (refine ⟨_, .lent (hf := h40) (hd := rfl) (hr := rfl), ?_⟩; simp (maxSteps := 4000000) only [go_sem, q]) | (refine ⟨_, .given (hf := h40) (hd := rfl) (ha := rfl), ?_⟩; simp (maxSteps := 4000000) only [go_sem, q]))); refine hK _ ?_; clear hK K) | refine walkL_nil ?_ | refine walkL_ret ?_ | refine walkL_exit ?_ | refine blockA_here ?_ | refine blockA_other rfl ?_ | refine blockA_ret ?_ | refine blockA_normal ?_ | refine thenA_ret ?_ | refine thenA_exit ?_ | refine thenA_normal ?_)
    simp (maxSteps := 4000000) only [go_sem]

theorem levelsP_len {p : Plant} {b : List Int} {m : List Sky} (hm : m.length < 2 ^ 30) : (levelsP p b m).1.length < 2 ^ 30 := by
  unfold levelsP
  split
  · rw [levs_len]; exact hm
  · simp

/-- What Worst returns. -/
theorem worst_spec {p : Plant} {b : List Int} : (worstP p b).1.length ≤ 48 ∧ ((worstP p b).2 ≠ 0 → (worstP p b).1 = []) ∧
    ((worstP p b).2 = 0 → (levelsP p b (worstP p b).1).2.2 = 0 ∧ (hoursI p (levelsP p b (worstP p b).1).1 : Int) = (lastsP p b).1) := by
  by_cases hz : openE p [b] = 0
  · obtain ⟨hp, hib⟩ := open_plantE hz
    have hg := plant_good hp
    obtain ⟨eH, _, h48⟩ := grid_lens hg
    obtain ⟨H, hgo, _⟩ := grid_good hg
    obtain ⟨r1, r2, l, hl, r3, r4⟩ := hardF_range hgo b
    have hpe : (gridOf p).p = p := rfl
    rw [hpe] at r3 r4
    have hll := (scen_ok hg hl).1
    have hlen := least_len p l
    unfold worstP
    rw [if_pos hz]
    split
    · exact ⟨by simp, fun _ => rfl, fun h => by simp at h⟩
    · rw [r3]
      refine ⟨by omega, fun h => absurd rfl h, fun _ => ?_⟩
      rw [levels_good hp hib (we_grid hg (least_we hg hl)), lastsP_good hp hib]
      exact ⟨rfl, by dsimp only; rw [hours_levs, r4]⟩
  · have e2 : worstP p b = ([], openE p [b]) := by unfold worstP; rw [if_neg hz]
    rw [e2]
    exact ⟨by simp, fun _ => rfl, fun h => absurd h hz⟩

theorem f13 (p : Plant) (b : List Int) (m : List Sky) (hs : PlantSmall p) (hb : b.length < 2 ^ 30) (hm : m.length < 2 ^ 30) : Fn Try.prog 13 [.agg p.cells, .sl (intRows b), .sl (skyRows m)] (.bool true) := by
  have h18 := f18 p hs
  have h15 := f15
  cases hf : far10 p
  case true =>
    rw [hf, Plant.cells] at h18
    refine fn_walk 135 Try.call13 Try.func13 rfl (by decide) fun J => ?_
    simp (maxSteps := 4000000) only [go_sem, St.start, Try.ntmps13, Try.results13, Plant.cells]
    repeat (first | refine walkL_true rfl ?_ | refine walkL_false rfl ?_ | refine walkL_seq ?_ | refine walkL_skip ?_ | refine walkL_block ?_ | (refine walkL_region fun K hK => ?_; simp (maxSteps := 4000000) only [go_sem]; (repeat (first | (refine ⟨_, .lent (hf := h18) (hd := rfl) (hr := rfl), ?_⟩; simp (maxSteps := 4000000) only [go_sem]) | (refine ⟨_, .lent (hf := h15) (hd := rfl) (hr := rfl), ?_⟩; simp (maxSteps := 4000000) only [go_sem]) | (refine ⟨_, .given (hf := h18) (hd := rfl) (ha := rfl), ?_⟩; simp (maxSteps := 4000000) only [go_sem]) | (refine ⟨_, .given (hf := h15) (hd := rfl) (ha := rfl), ?_⟩; simp (maxSteps := 4000000) only [go_sem]))); refine hK _ ?_; clear hK K) | refine walkL_nil ?_ | refine walkL_ret ?_ | refine walkL_exit ?_ | refine blockA_here ?_ | refine blockA_other rfl ?_ | refine blockA_ret ?_ | refine blockA_normal ?_ | refine thenA_ret ?_ | refine thenA_exit ?_ | refine thenA_normal ?_)
    simp (maxSteps := 4000000) only [go_sem]
  case false =>
  rw [hf] at h18
  cases q1 : decide ((b.length : Int) > 100)
  case true =>
    rw [Plant.cells] at h18
    refine fn_walk 135 Try.call13 Try.func13 rfl (by decide) fun J => ?_
    simp (maxSteps := 4000000) only [go_sem, St.start, Try.ntmps13, Try.results13, Plant.cells]
    repeat (first | refine walkL_true rfl ?_ | refine walkL_false rfl ?_ | refine walkL_seq ?_ | refine walkL_skip ?_ | refine walkL_block ?_ | (refine walkL_region fun K hK => ?_; simp (maxSteps := 4000000) only [go_sem, q1]; (repeat (first | (refine ⟨_, .lent (hf := h18) (hd := rfl) (hr := rfl), ?_⟩; simp (maxSteps := 4000000) only [go_sem, q1]) | (refine ⟨_, .lent (hf := h15) (hd := rfl) (hr := rfl), ?_⟩; simp (maxSteps := 4000000) only [go_sem, q1]) | (refine ⟨_, .given (hf := h18) (hd := rfl) (ha := rfl), ?_⟩; simp (maxSteps := 4000000) only [go_sem, q1]) | (refine ⟨_, .given (hf := h15) (hd := rfl) (ha := rfl), ?_⟩; simp (maxSteps := 4000000) only [go_sem, q1]))); refine hK _ ?_; clear hK K) | refine walkL_nil ?_ | refine walkL_ret ?_ | refine walkL_exit ?_ | refine blockA_here ?_ | refine blockA_other rfl ?_ | refine blockA_ret ?_ | refine blockA_normal ?_ | refine thenA_ret ?_ | refine thenA_exit ?_ | refine thenA_normal ?_)
    simp (maxSteps := 4000000) only [go_sem]
  case false =>
  cases q2 : decide ((m.length : Int) > 100)
  case true =>
    rw [Plant.cells] at h18
    refine fn_walk 135 Try.call13 Try.func13 rfl (by decide) fun J => ?_
    simp (maxSteps := 4000000) only [go_sem, St.start, Try.ntmps13, Try.results13, Plant.cells]
    repeat (first | refine walkL_true rfl ?_ | refine walkL_false rfl ?_ | refine walkL_seq ?_ | refine walkL_skip ?_ | refine walkL_block ?_ | (refine walkL_region fun K hK => ?_; simp (maxSteps := 4000000) only [go_sem, q1, q2]; (repeat (first | (refine ⟨_, .lent (hf := h18) (hd := rfl) (hr := rfl), ?_⟩; simp (maxSteps := 4000000) only [go_sem, q1, q2]) | (refine ⟨_, .lent (hf := h15) (hd := rfl) (hr := rfl), ?_⟩; simp (maxSteps := 4000000) only [go_sem, q1, q2]) | (refine ⟨_, .given (hf := h18) (hd := rfl) (ha := rfl), ?_⟩; simp (maxSteps := 4000000) only [go_sem, q1, q2]) | (refine ⟨_, .given (hf := h15) (hd := rfl) (ha := rfl), ?_⟩; simp (maxSteps := 4000000) only [go_sem, q1, q2]))); refine hK _ ?_; clear hK K) | refine walkL_nil ?_ | refine walkL_ret ?_ | refine walkL_exit ?_ | refine blockA_here ?_ | refine blockA_other rfl ?_ | refine blockA_ret ?_ | refine blockA_normal ?_ | refine thenA_ret ?_ | refine thenA_exit ?_ | refine thenA_normal ?_)
    simp (maxSteps := 4000000) only [go_sem]
  case false =>
  have h16 := f16 p hs
  have h30 := f30 p b m hs hb
  have h39 := f39 p b m hs hb hm
  have h22 := f22 p b hs hb
  have h40 := f40 p b hs hb
  have h38 := f38 p b hs hb
  have h41 := f41 p b hs hb
  obtain ⟨w1, w2, w3⟩ := worst_spec (p := p) (b := b)
  have h39w := f39 p b (worstP p b).1 hs hb (by omega)
  have hlw := levelsP_len (p := p) (b := b) (m := (worstP p b).1) (by omega)
  have h37 := f37 p (levelsP p b (worstP p b).1).1 hlw
  have hll := levelsP_len (p := p) (b := b) (m := m) hm
  obtain ⟨R, hR⟩ : ∃ R, R = levelsP p b m := ⟨_, rfl⟩
  rw [← hR] at h30 h39 hll
  obtain ⟨W, hW⟩ : ∃ W, W = worstP p b := ⟨_, rfl⟩
  rw [← hW] at w1 w2 w3 h39w h38 h41 hlw h37
  obtain ⟨X, hX⟩ : ∃ X, X = levelsP p b W.1 := ⟨_, rfl⟩
  rw [← hX] at h39w h37 w3
  obtain ⟨Y, hY⟩ : ∃ Y, Y = lastsP p b := ⟨_, rfl⟩
  rw [← hY] at h22 h40 w3
  obtain ⟨R1, R2, R3⟩ := R
  obtain ⟨W1, W2⟩ := W
  obtain ⟨X1, X2, X3⟩ := X
  obtain ⟨Y1, Y2⟩ := Y
  dsimp only at h30 h39 hll w1 w2 w3 h39w h38 h41 hlw h37 h22 h40
  have h20 := f20 R1 R1 hll
  rw [decide_eq_true rfl] at h20
  have n1 : (R2 != R2) = false := by simp
  have n2 : (R3 != R3) = false := by simp
  have n3 : (Y1 != Y1) = false := by simp
  have n4 : (Y2 != Y2) = false := by simp
  have n5 : (W2 != W2) = false := by simp
  have n6 : decide ((W1.length : Int) > 100) = false := by simp; omega
  have b1 : b.length ≤ 549755813888 := by omega
  have m1 : m.length ≤ 549755813888 := by omega
  rw [Plant.cells] at h18 h16 h30 h39 h22 h40 h38 h41 h39w h37
  refine fn_walk 135 Try.call13 Try.func13 rfl (by decide) fun J => ?_
  simp (maxSteps := 4000000) only [go_sem, St.start, Try.ntmps13, Try.results13, Plant.cells]
  repeat (first | refine walkL_true rfl ?_ | refine walkL_false rfl ?_ | refine walkL_seq ?_ | refine walkL_skip ?_ | refine walkL_block ?_ | (refine walkL_region fun K hK => ?_; simp (maxSteps := 4000000) only [go_sem, q1, q2, b1, List.nil_append]; (repeat (first | (refine ⟨_, .lent (hf := h18) (hd := rfl) (hr := rfl), ?_⟩; simp (maxSteps := 4000000) only [go_sem, q1, q2, b1, List.nil_append]) | (refine ⟨_, .lent (hf := h16) (hd := rfl) (hr := rfl), ?_⟩; simp (maxSteps := 4000000) only [go_sem, q1, q2, b1, List.nil_append]) | (refine ⟨_, .given (hf := h18) (hd := rfl) (ha := rfl), ?_⟩; simp (maxSteps := 4000000) only [go_sem, q1, q2, b1, List.nil_append]) | (refine ⟨_, .given (hf := h16) (hd := rfl) (ha := rfl), ?_⟩; simp (maxSteps := 4000000) only [go_sem, q1, q2, b1, List.nil_append]))); refine hK _ ?_; clear hK K) | refine walkL_nil ?_ | refine walkL_ret ?_ | refine walkL_exit ?_ | refine blockA_here ?_ | refine blockA_other rfl ?_ | refine blockA_ret ?_ | refine blockA_normal ?_ | refine thenA_ret ?_ | refine thenA_exit ?_ | refine thenA_normal ?_)
  refine walkL_release [36] ?_
  simp (maxSteps := 4000000) only [go_sem]
  refine walkL_drawnR [44] (by kernel_rfl) (by kernel_rfl) fun K hK => ?_
  simp (maxSteps := 4000000) only [go_sem, m1, List.nil_append]
  refine ⟨_, .fn (hf := h30) (hd := rfl) (hr := .inr rfl), ?_⟩
  simp (maxSteps := 4000000) only [go_sem]
  refine ⟨by kernel_rfl, hK _ ?_⟩
  clear hK K
  by_cases hw : W2 = 0
  · obtain ⟨w4, w5⟩ := w3 hw
    have n7 : (W2 != 0) = false := by simp [hw]
    have n8 : (X3 == 0) = true := by simp [w4]
    have n9 : ((hoursI p X1 : Int) == Y1) = true := by simp [w5]
    repeat (first | refine walkL_true rfl ?_ | refine walkL_false rfl ?_ | refine walkL_seq ?_ | refine walkL_skip ?_ | refine walkL_block ?_ | (refine walkL_region fun K hK => ?_; simp (maxSteps := 4000000) only [go_sem, n1, n2, n3, n4, n5, n6, n7, n8, n9]; (repeat (first | (refine ⟨_, .lent (hf := h39) (hd := rfl) (hr := rfl), ?_⟩; simp (maxSteps := 4000000) only [go_sem, n1, n2, n3, n4, n5, n6, n7, n8, n9]) | (refine ⟨_, .lent (hf := h20) (hd := rfl) (hr := rfl), ?_⟩; simp (maxSteps := 4000000) only [go_sem, n1, n2, n3, n4, n5, n6, n7, n8, n9]) | (refine ⟨_, .lent (hf := h22) (hd := rfl) (hr := rfl), ?_⟩; simp (maxSteps := 4000000) only [go_sem, n1, n2, n3, n4, n5, n6, n7, n8, n9]) | (refine ⟨_, .lent (hf := h40) (hd := rfl) (hr := rfl), ?_⟩; simp (maxSteps := 4000000) only [go_sem, n1, n2, n3, n4, n5, n6, n7, n8, n9]) | (refine ⟨_, .lent (hf := h38) (hd := rfl) (hr := rfl), ?_⟩; simp (maxSteps := 4000000) only [go_sem, n1, n2, n3, n4, n5, n6, n7, n8, n9]) | (refine ⟨_, .lent (hf := h41) (hd := rfl) (hr := rfl), ?_⟩; simp (maxSteps := 4000000) only [go_sem, n1, n2, n3, n4, n5, n6, n7, n8, n9]) | (refine ⟨_, .lent (hf := h39w) (hd := rfl) (hr := rfl), ?_⟩; simp (maxSteps := 4000000) only [go_sem, n1, n2, n3, n4, n5, n6, n7, n8, n9]) | (refine ⟨_, .lent (hf := h37) (hd := rfl) (hr := rfl), ?_⟩; simp (maxSteps := 4000000) only [go_sem, n1, n2, n3, n4, n5, n6, n7, n8, n9]) | (refine ⟨_, .lent (hf := h15) (hd := rfl) (hr := rfl), ?_⟩; simp (maxSteps := 4000000) only [go_sem, n1, n2, n3, n4, n5, n6, n7, n8, n9]) | (refine ⟨_, .given (hf := h39) (hd := rfl) (ha := rfl), ?_⟩; simp (maxSteps := 4000000) only [go_sem, n1, n2, n3, n4, n5, n6, n7, n8, n9]) | (refine ⟨_, .given (hf := h20) (hd := rfl) (ha := rfl), ?_⟩; simp (maxSteps := 4000000) only [go_sem, n1, n2, n3, n4, n5, n6, n7, n8, n9]) | (refine ⟨_, .given (hf := h22) (hd := rfl) (ha := rfl), ?_⟩; simp (maxSteps := 4000000) only [go_sem, n1, n2, n3, n4, n5, n6, n7, n8, n9]) | (refine ⟨_, .given (hf := h40) (hd := rfl) (ha := rfl), ?_⟩; simp (maxSteps := 4000000) only [go_sem, n1, n2, n3, n4, n5, n6, n7, n8, n9]) | (refine ⟨_, .given (hf := h38) (hd := rfl) (ha := rfl), ?_⟩; simp (maxSteps := 4000000) only [go_sem, n1, n2, n3, n4, n5, n6, n7, n8, n9]) | (refine ⟨_, .given (hf := h41) (hd := rfl) (ha := rfl), ?_⟩; simp (maxSteps := 4000000) only [go_sem, n1, n2, n3, n4, n5, n6, n7, n8, n9]) | (refine ⟨_, .given (hf := h39w) (hd := rfl) (ha := rfl), ?_⟩; simp (maxSteps := 4000000) only [go_sem, n1, n2, n3, n4, n5, n6, n7, n8, n9]) | (refine ⟨_, .given (hf := h37) (hd := rfl) (ha := rfl), ?_⟩; simp (maxSteps := 4000000) only [go_sem, n1, n2, n3, n4, n5, n6, n7, n8, n9]) | (refine ⟨_, .given (hf := h15) (hd := rfl) (ha := rfl), ?_⟩; simp (maxSteps := 4000000) only [go_sem, n1, n2, n3, n4, n5, n6, n7, n8, n9]))); refine hK _ ?_; clear hK K) | refine walkL_nil ?_ | refine walkL_ret ?_ | refine walkL_exit ?_ | refine blockA_here ?_ | refine blockA_other rfl ?_ | refine blockA_ret ?_ | refine blockA_normal ?_ | refine thenA_ret ?_ | refine thenA_exit ?_ | refine thenA_normal ?_)
    simp (maxSteps := 4000000) only [go_sem]
  · have hnil := w2 hw
    subst hnil
    have n7 : (W2 != 0) = true := by simpa using hw
    repeat (first | refine walkL_true rfl ?_ | refine walkL_false rfl ?_ | refine walkL_seq ?_ | refine walkL_skip ?_ | refine walkL_block ?_ | (refine walkL_region fun K hK => ?_; simp (maxSteps := 4000000) only [go_sem, n1, n2, n3, n4, n5, n6, n7]; (repeat (first | (refine ⟨_, .lent (hf := h39) (hd := rfl) (hr := rfl), ?_⟩; simp (maxSteps := 4000000) only [go_sem, n1, n2, n3, n4, n5, n6, n7]) | (refine ⟨_, .lent (hf := h20) (hd := rfl) (hr := rfl), ?_⟩; simp (maxSteps := 4000000) only [go_sem, n1, n2, n3, n4, n5, n6, n7]) | (refine ⟨_, .lent (hf := h22) (hd := rfl) (hr := rfl), ?_⟩; simp (maxSteps := 4000000) only [go_sem, n1, n2, n3, n4, n5, n6, n7]) | (refine ⟨_, .lent (hf := h40) (hd := rfl) (hr := rfl), ?_⟩; simp (maxSteps := 4000000) only [go_sem, n1, n2, n3, n4, n5, n6, n7]) | (refine ⟨_, .lent (hf := h38) (hd := rfl) (hr := rfl), ?_⟩; simp (maxSteps := 4000000) only [go_sem, n1, n2, n3, n4, n5, n6, n7]) | (refine ⟨_, .lent (hf := h41) (hd := rfl) (hr := rfl), ?_⟩; simp (maxSteps := 4000000) only [go_sem, n1, n2, n3, n4, n5, n6, n7]) | (refine ⟨_, .lent (hf := h15) (hd := rfl) (hr := rfl), ?_⟩; simp (maxSteps := 4000000) only [go_sem, n1, n2, n3, n4, n5, n6, n7]) | (refine ⟨_, .given (hf := h39) (hd := rfl) (ha := rfl), ?_⟩; simp (maxSteps := 4000000) only [go_sem, n1, n2, n3, n4, n5, n6, n7]) | (refine ⟨_, .given (hf := h20) (hd := rfl) (ha := rfl), ?_⟩; simp (maxSteps := 4000000) only [go_sem, n1, n2, n3, n4, n5, n6, n7]) | (refine ⟨_, .given (hf := h22) (hd := rfl) (ha := rfl), ?_⟩; simp (maxSteps := 4000000) only [go_sem, n1, n2, n3, n4, n5, n6, n7]) | (refine ⟨_, .given (hf := h40) (hd := rfl) (ha := rfl), ?_⟩; simp (maxSteps := 4000000) only [go_sem, n1, n2, n3, n4, n5, n6, n7]) | (refine ⟨_, .given (hf := h38) (hd := rfl) (ha := rfl), ?_⟩; simp (maxSteps := 4000000) only [go_sem, n1, n2, n3, n4, n5, n6, n7]) | (refine ⟨_, .given (hf := h41) (hd := rfl) (ha := rfl), ?_⟩; simp (maxSteps := 4000000) only [go_sem, n1, n2, n3, n4, n5, n6, n7]) | (refine ⟨_, .given (hf := h15) (hd := rfl) (ha := rfl), ?_⟩; simp (maxSteps := 4000000) only [go_sem, n1, n2, n3, n4, n5, n6, n7]))); refine hK _ ?_; clear hK K) | refine walkL_nil ?_ | refine walkL_ret ?_ | refine walkL_exit ?_ | refine blockA_here ?_ | refine blockA_other rfl ?_ | refine blockA_ret ?_ | refine blockA_normal ?_ | refine thenA_ret ?_ | refine thenA_exit ?_ | refine thenA_normal ?_)
    simp (maxSteps := 4000000) only [go_sem]
end Go.Ab
