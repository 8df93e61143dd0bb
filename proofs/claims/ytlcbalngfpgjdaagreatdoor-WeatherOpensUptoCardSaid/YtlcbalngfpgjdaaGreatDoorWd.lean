/- A walk engine over abstract states, and the contracts of the functions that the statement reaches: part 4. -/
import Derived.Test.YtlcbalngfpgjdaaGreatDoorWc
set_option linter.unusedVariables false
set_option linter.unusedSimpArgs false
set_option linter.unnecessarySimpa false
namespace Go.Ab
open Go.RowKit Go.Proofs
set_option maxHeartbeats 8000000
set_option maxRecDepth 20000
attribute [local irreducible] WalkL Walk
theorem f72 (n lo hi : Int) : Fn Tryz.prog 72 [.i n, .i lo, .i hi] (.bool (withinB n lo hi)) := by
  refine fn_walk 15 Tryz.call72 Tryz.func72 rfl (by decide) fun J => ?_
  simp (maxSteps := 4000000) only [go_sem, St.start, Tryz.ntmps72, Tryz.results72]
  by_cases h : lo ≤ n
  · repeat (first | refine walkL_seq ?_ | refine walkL_skip ?_ | refine walkL_block ?_ | (refine walkL_region fun K hK => ?_; simp (maxSteps := 4000000) only [go_sem, h, ge_iff_le]; refine hK _ ?_; clear hK K) | refine walkL_nil ?_ | refine walkL_ret ?_ | refine walkL_exit ?_ | refine blockA_here ?_ | refine blockA_other rfl ?_ | refine blockA_ret ?_ | refine blockA_normal ?_ | refine thenA_ret ?_ | refine thenA_exit ?_ | refine thenA_normal ?_)
    simp (maxSteps := 4000000) only [go_sem, withinB, h]
  · repeat (first | refine walkL_seq ?_ | refine walkL_skip ?_ | refine walkL_block ?_ | (refine walkL_region fun K hK => ?_; simp (maxSteps := 4000000) only [go_sem, h, ge_iff_le]; refine hK _ ?_; clear hK K) | refine walkL_nil ?_ | refine walkL_ret ?_ | refine walkL_exit ?_ | refine blockA_here ?_ | refine blockA_other rfl ?_ | refine blockA_ret ?_ | refine blockA_normal ?_ | refine thenA_ret ?_ | refine thenA_exit ?_ | refine thenA_normal ?_)
    simp (maxSteps := 4000000) only [go_sem, withinB, h]
theorem f82 (s : Span) (lo hi : Int) : Fn Tryz.prog 82 [.agg s.row, .i lo, .i hi] (.bool (orderedB s lo hi)) := by
  refine fn_walk 24 Tryz.call82 Tryz.func82 rfl (by decide) fun J => ?_
  simp (maxSteps := 4000000) only [go_sem, St.start, Tryz.ntmps82, Tryz.results82, Span.row]
  by_cases h : lo ≤ s.lo <;> by_cases h2 : s.lo ≤ s.hi
  all_goals
    repeat (first | refine walkL_seq ?_ | refine walkL_skip ?_ | refine walkL_block ?_ | (refine walkL_region fun K hK => ?_; simp (maxSteps := 4000000) only [go_sem, h, h2, ge_iff_le]; refine hK _ ?_; clear hK K) | refine walkL_nil ?_ | refine walkL_ret ?_ | refine walkL_exit ?_ | refine blockA_here ?_ | refine blockA_other rfl ?_ | refine blockA_ret ?_ | refine blockA_normal ?_ | refine thenA_ret ?_ | refine thenA_exit ?_ | refine thenA_normal ?_)
    simp (maxSteps := 4000000) only [go_sem, orderedB, h, h2]
theorem f101 (n : Int) (s : Span) : Fn Tryz.prog 101 [.i n, .agg s.row] (.bool (withinB n s.lo s.hi)) := by
  have h97 := f72 n s.lo s.hi
  refine fn_walk 11 Tryz.call101 Tryz.func101 rfl (by decide) fun J => ?_
  simp (maxSteps := 4000000) only [go_sem, St.start, Tryz.ntmps101, Tryz.results101, Span.row]
  repeat (first | refine walkL_seq ?_ | refine walkL_skip ?_ | refine walkL_block ?_ | (refine walkL_region fun K hK => ?_; simp (maxSteps := 4000000) only [go_sem]; (repeat (first | (refine ⟨_, .lent (hf := h97) (hd := rfl) (hr := rfl), ?_⟩; simp (maxSteps := 4000000) only [go_sem]) | (refine ⟨_, .given (hf := h97) (hd := rfl) (ha := rfl), ?_⟩; simp (maxSteps := 4000000) only [go_sem]))); refine hK _ ?_; clear hK K) | refine walkL_nil ?_ | refine walkL_ret ?_ | refine walkL_exit ?_ | refine blockA_here ?_ | refine blockA_other rfl ?_ | refine blockA_ret ?_ | refine blockA_normal ?_ | refine thenA_ret ?_ | refine thenA_exit ?_ | refine thenA_normal ?_)
  simp (maxSteps := 4000000) only [go_sem]
theorem f30 (F : List (List Hour)) (h0 : List Hour) (h : F[0]? = some h0) : Fn Tryz.prog 30 [.agg [.sl (scenRows F)]] (.i h0.length) := by
  have g0 := scenRows_at h
  refine fn_walk 9 Tryz.call30 Tryz.func30 rfl (by decide) fun J => ?_
  simp (maxSteps := 4000000) only [go_sem, St.start, Tryz.ntmps30, Tryz.results30]
  repeat (first | refine walkL_seq ?_ | refine walkL_skip ?_ | refine walkL_block ?_ | (refine walkL_region fun K hK => ?_; simp (maxSteps := 4000000) only [go_sem, g0]; refine hK _ ?_; clear hK K) | refine walkL_nil ?_ | refine walkL_ret ?_ | refine walkL_exit ?_ | refine blockA_here ?_ | refine blockA_other rfl ?_ | refine blockA_ret ?_ | refine blockA_normal ?_ | refine thenA_ret ?_ | refine thenA_exit ?_ | refine thenA_normal ?_)
  simp (maxSteps := 4000000) only [go_sem]
theorem f35 (F : List (List Hour)) (hs : ForeSmall F) : Fn Tryz.prog 35 [.agg [.sl (scenRows F)]] (.i (foreF F)) := by
  have h1 := hs.scen
  have h97 := f72 F.length 1 6
  cases q1 : withinB (F.length : Int) 1 6
  · have e : foreF F = 50 := by simp [foreF, badF, q1]
    rw [e]
    rw [q1] at h97
    refine fn_walk 66 Tryz.call35 Tryz.func35 rfl (by decide) fun J => ?_
    simp (maxSteps := 4000000) only [go_sem, St.start, Tryz.ntmps35, Tryz.results35]
    repeat (first | refine walkL_true rfl ?_ | refine walkL_false rfl ?_ | refine walkL_seq ?_ | refine walkL_skip ?_ | refine walkL_block ?_ | (refine walkL_region fun K hK => ?_; simp (maxSteps := 4000000) only [go_sem]; (repeat (first | (refine ⟨_, .lent (hf := h97) (hd := rfl) (hr := rfl), ?_⟩; simp (maxSteps := 4000000) only [go_sem]) | (refine ⟨_, .given (hf := h97) (hd := rfl) (ha := rfl), ?_⟩; simp (maxSteps := 4000000) only [go_sem]))); refine hK _ ?_; clear hK K) | refine walkL_nil ?_ | refine walkL_ret ?_ | refine walkL_exit ?_ | refine blockA_here ?_ | refine blockA_other rfl ?_ | refine blockA_ret ?_ | refine blockA_normal ?_ | refine thenA_ret ?_ | refine thenA_exit ?_ | refine thenA_normal ?_)
    simp (maxSteps := 4000000) only [go_sem]
  · have hl := within_iff.1 q1
    rw [q1] at h97
    have h0 := headD_get (F := F) (by omega)
    obtain ⟨H0, hH0⟩ : ∃ H0, H0 = hd0 F := ⟨_, rfl⟩
    rw [← hH0] at h0
    have hm0 : H0 ∈ F := List.mem_of_getElem? h0
    have h71 := f30 F H0 h0
    have h97b := f72 H0.length 1 48
    have hsm := hs.hours H0 hm0
    have hbadx : ∀ x ∈ F, scenB H0 x = false → foreF F = 50 := fun x hx hf => by
      have : F.all (scenB H0) = false := by
        obtain ⟨i, hi⟩ := List.getElem?_of_mem hx
        exact all_of_get hi hf
      simp [foreF, badF, ← hH0, this]
    cases q2 : withinB (H0.length : Int) 1 48
    · have e : foreF F = 50 := hbadx H0 hm0 (by simp [scenB, q2])
      rw [e]
      rw [q2] at h97b
      refine fn_walk 66 Tryz.call35 Tryz.func35 rfl (by decide) fun J => ?_
      simp (maxSteps := 4000000) only [go_sem, St.start, Tryz.ntmps35, Tryz.results35]
      repeat (first | refine walkL_true rfl ?_ | refine walkL_false rfl ?_ | refine walkL_seq ?_ | refine walkL_skip ?_ | refine walkL_block ?_ | (refine walkL_region fun K hK => ?_; simp (maxSteps := 4000000) only [go_sem]; (repeat (first | (refine ⟨_, .lent (hf := h97) (hd := rfl) (hr := rfl), ?_⟩; simp (maxSteps := 4000000) only [go_sem]) | (refine ⟨_, .lent (hf := h71) (hd := rfl) (hr := rfl), ?_⟩; simp (maxSteps := 4000000) only [go_sem]) | (refine ⟨_, .lent (hf := h97b) (hd := rfl) (hr := rfl), ?_⟩; simp (maxSteps := 4000000) only [go_sem]) | (refine ⟨_, .given (hf := h97) (hd := rfl) (ha := rfl), ?_⟩; simp (maxSteps := 4000000) only [go_sem]) | (refine ⟨_, .given (hf := h71) (hd := rfl) (ha := rfl), ?_⟩; simp (maxSteps := 4000000) only [go_sem]) | (refine ⟨_, .given (hf := h97b) (hd := rfl) (ha := rfl), ?_⟩; simp (maxSteps := 4000000) only [go_sem]))); refine hK _ ?_; clear hK K) | refine walkL_nil ?_ | refine walkL_ret ?_ | refine walkL_exit ?_ | refine blockA_here ?_ | refine blockA_other rfl ?_ | refine blockA_ret ?_ | refine blockA_normal ?_ | refine thenA_ret ?_ | refine thenA_exit ?_ | refine thenA_normal ?_)
      simp (maxSteps := 4000000) only [go_sem]
    · rw [q2] at h97b
      refine fn_walk 66 Tryz.call35 Tryz.func35 rfl (by decide) fun J => ?_
      simp (maxSteps := 4000000) only [go_sem, St.start, Tryz.ntmps35, Tryz.results35]
      repeat (first | refine walkL_true rfl ?_ | refine walkL_false rfl ?_ | refine walkL_seq ?_ | refine walkL_skip ?_ | refine walkL_block ?_ | (refine walkL_region fun K hK => ?_; simp (maxSteps := 4000000) only [go_sem]; (repeat (first | (refine ⟨_, .lent (hf := h97) (hd := rfl) (hr := rfl), ?_⟩; simp (maxSteps := 4000000) only [go_sem]) | (refine ⟨_, .lent (hf := h71) (hd := rfl) (hr := rfl), ?_⟩; simp (maxSteps := 4000000) only [go_sem]) | (refine ⟨_, .lent (hf := h97b) (hd := rfl) (hr := rfl), ?_⟩; simp (maxSteps := 4000000) only [go_sem]) | (refine ⟨_, .given (hf := h97) (hd := rfl) (ha := rfl), ?_⟩; simp (maxSteps := 4000000) only [go_sem]) | (refine ⟨_, .given (hf := h71) (hd := rfl) (ha := rfl), ?_⟩; simp (maxSteps := 4000000) only [go_sem]) | (refine ⟨_, .given (hf := h97b) (hd := rfl) (ha := rfl), ?_⟩; simp (maxSteps := 4000000) only [go_sem]))); refine hK _ ?_; clear hK K) | refine walkL_nil ?_ | refine walkL_ret ?_ | refine walkL_exit ?_ | refine blockA_here ?_ | refine blockA_other rfl ?_ | refine blockA_ret ?_ | refine blockA_normal ?_ | refine thenA_ret ?_ | refine thenA_exit ?_ | refine thenA_normal ?_)
      refine walkL_loopS (fun (i : Nat) => [(3, .d (.i i))]) (fun _ => []) (fun i => i ≤ F.length ∧ (F.take i).all (scenB H0) = true) (fun i => F.length - i) 0 ?_ ⟨Nat.zero_le _, rfl⟩ ?_
      · simp (maxSteps := 4000000) only [go_sem]
        refine weak_of [] ?_ ?_ rfl rfl <;> simp [lessT, lessM, lessB, AV.less]
      · intro i ⟨hi, hall⟩
        simp (maxSteps := 4000000) only [go_sem]
        repeat (first | refine walkL_seq ?_ | refine walkL_skip ?_ | refine walkL_block ?_ | (refine walkL_region fun K hK => ?_; simp (maxSteps := 4000000) only [go_sem]; refine hK _ ?_; clear hK K) | refine walkL_nil ?_ | refine walkL_ret ?_ | refine walkL_exit ?_ | refine blockA_here ?_ | refine blockA_other rfl ?_ | refine blockA_ret ?_ | refine blockA_normal ?_ | refine thenA_ret ?_ | refine thenA_exit ?_ | refine thenA_normal ?_)
        refine walkL_cond rfl (fun hb => ?_) (fun hb => ?_)
        · have hlt : i < F.length := by simpa using hb
          have hw : IntKind.i64.wrap ((i : Int) + 1) = ((i + 1 : Nat) : Int) := by rw [wr_small (by omega)]; simp
          obtain ⟨l, hx⟩ : ∃ l, F[i]? = some l := ⟨_, List.getElem?_eq_getElem hlt⟩
          have hlm := List.mem_of_getElem? hx
          have hls := hs.hours l hlm
          have g1 := scenRows_at hx
          cases q3 : ((l.length : Int) != (H0.length : Int))
          · have hll : l.length = H0.length := by
              have : ¬ (l.length : Int) ≠ (H0.length : Int) := by simpa using q3
              omega
            have hw1 : withinB (l.length : Int) 1 48 = true := by rw [hll]; exact q2
            repeat (first | refine walkL_true rfl ?_ | refine walkL_false rfl ?_ | refine walkL_seq ?_ | refine walkL_skip ?_ | refine walkL_block ?_ | (refine walkL_region fun K hK => ?_; simp (maxSteps := 4000000) only [go_sem, g1, q3]; (repeat (first | (refine ⟨_, .lent (hf := h71) (hd := rfl) (hr := rfl), ?_⟩; simp (maxSteps := 4000000) only [go_sem, g1, q3]) | (refine ⟨_, .given (hf := h71) (hd := rfl) (ha := rfl), ?_⟩; simp (maxSteps := 4000000) only [go_sem, g1, q3]))); refine hK _ ?_; clear hK K) | refine walkL_nil ?_ | refine walkL_ret ?_ | refine walkL_exit ?_ | refine blockA_here ?_ | refine blockA_other rfl ?_ | refine blockA_ret ?_ | refine blockA_normal ?_ | refine thenA_ret ?_ | refine thenA_exit ?_ | refine thenA_normal ?_)
            refine walkL_loopS (fun (j : Nat) => [(5, .d (.i j))]) (fun _ => []) (fun j => j ≤ l.length ∧ (l.take j).all hourB = true) (fun j => l.length - j) 0 ?_ ⟨Nat.zero_le _, rfl⟩ ?_
            · simp (maxSteps := 4000000) only [go_sem]
              refine weak_of [] ?_ ?_ rfl rfl <;> simp [lessT, lessM, lessB, AV.less]
            · intro j ⟨hj, hallj⟩
              simp (maxSteps := 4000000) only [go_sem]
              repeat (first | refine walkL_seq ?_ | refine walkL_skip ?_ | refine walkL_block ?_ | (refine walkL_region fun K hK => ?_; simp (maxSteps := 4000000) only [go_sem]; refine hK _ ?_; clear hK K) | refine walkL_nil ?_ | refine walkL_ret ?_ | refine walkL_exit ?_ | refine blockA_here ?_ | refine blockA_other rfl ?_ | refine blockA_ret ?_ | refine blockA_normal ?_ | refine thenA_ret ?_ | refine thenA_exit ?_ | refine thenA_normal ?_)
              refine walkL_cond rfl (fun hb => ?_) (fun hb => ?_)
              · have hltj : j < l.length := by simpa using hb
                have hwj : IntKind.i64.wrap ((j : Int) + 1) = ((j + 1 : Nat) : Int) := by rw [wr_small (by omega)]; simp
                obtain ⟨h, hxj⟩ : ∃ h, l[j]? = some h := ⟨_, List.getElem?_eq_getElem hltj⟩
                have gj := hourRows_at hxj
                have k1 := f82 h.wind 0 200
                have k2 := f82 h.rain 0 100
                have k3 := f82 h.temp (-50) 50
                rw [Span.row] at k1 k2 k3
                obtain ⟨b1, e1⟩ : ∃ b, b = orderedB h.wind 0 200 := ⟨_, rfl⟩
                obtain ⟨b2, e2⟩ : ∃ b, b = orderedB h.rain 0 100 := ⟨_, rfl⟩
                obtain ⟨b3, e3⟩ : ∃ b, b = orderedB h.temp (-50) 50 := ⟨_, rfl⟩
                have hh : hourB h = (b1 && (b2 && b3)) := by rw [hourB, e1, e2, e3]
                rw [← e1] at k1
                rw [← e2] at k2
                rw [← e3] at k3
                have hbad : hourB h = false → foreF F = 50 := fun hf => hbadx l hlm (by simp [scenB, all_of_get hxj hf])
                cases b1
                · repeat (first | refine walkL_true rfl ?_ | refine walkL_false rfl ?_ | refine walkL_seq ?_ | refine walkL_skip ?_ | refine walkL_block ?_ | (refine walkL_region fun K hK => ?_; simp (maxSteps := 4000000) only [go_sem, gj, Hour.row]; (repeat (first | (refine ⟨_, .lent (hf := k1) (hd := rfl) (hr := rfl), ?_⟩; simp (maxSteps := 4000000) only [go_sem, gj, Hour.row]) | (refine ⟨_, .given (hf := k1) (hd := rfl) (ha := rfl), ?_⟩; simp (maxSteps := 4000000) only [go_sem, gj, Hour.row]))); refine hK _ ?_; clear hK K) | refine walkL_nil ?_ | refine walkL_ret ?_ | refine walkL_exit ?_ | refine blockA_here ?_ | refine blockA_other rfl ?_ | refine blockA_ret ?_ | refine blockA_normal ?_ | refine thenA_ret ?_ | refine thenA_exit ?_ | refine thenA_normal ?_)
                  simp (maxSteps := 4000000) only [go_sem, hbad (by rw [hh]; rfl)]
                · cases b2
                  · repeat (first | refine walkL_true rfl ?_ | refine walkL_false rfl ?_ | refine walkL_seq ?_ | refine walkL_skip ?_ | refine walkL_block ?_ | (refine walkL_region fun K hK => ?_; simp (maxSteps := 4000000) only [go_sem, gj, Hour.row]; (repeat (first | (refine ⟨_, .lent (hf := k1) (hd := rfl) (hr := rfl), ?_⟩; simp (maxSteps := 4000000) only [go_sem, gj, Hour.row]) | (refine ⟨_, .lent (hf := k2) (hd := rfl) (hr := rfl), ?_⟩; simp (maxSteps := 4000000) only [go_sem, gj, Hour.row]) | (refine ⟨_, .given (hf := k1) (hd := rfl) (ha := rfl), ?_⟩; simp (maxSteps := 4000000) only [go_sem, gj, Hour.row]) | (refine ⟨_, .given (hf := k2) (hd := rfl) (ha := rfl), ?_⟩; simp (maxSteps := 4000000) only [go_sem, gj, Hour.row]))); refine hK _ ?_; clear hK K) | refine walkL_nil ?_ | refine walkL_ret ?_ | refine walkL_exit ?_ | refine blockA_here ?_ | refine blockA_other rfl ?_ | refine blockA_ret ?_ | refine blockA_normal ?_ | refine thenA_ret ?_ | refine thenA_exit ?_ | refine thenA_normal ?_)
                    simp (maxSteps := 4000000) only [go_sem, hbad (by rw [hh]; rfl)]
                  · cases b3
                    · repeat (first | refine walkL_true rfl ?_ | refine walkL_false rfl ?_ | refine walkL_seq ?_ | refine walkL_skip ?_ | refine walkL_block ?_ | (refine walkL_region fun K hK => ?_; simp (maxSteps := 4000000) only [go_sem, gj, Hour.row]; (repeat (first | (refine ⟨_, .lent (hf := k1) (hd := rfl) (hr := rfl), ?_⟩; simp (maxSteps := 4000000) only [go_sem, gj, Hour.row]) | (refine ⟨_, .lent (hf := k2) (hd := rfl) (hr := rfl), ?_⟩; simp (maxSteps := 4000000) only [go_sem, gj, Hour.row]) | (refine ⟨_, .lent (hf := k3) (hd := rfl) (hr := rfl), ?_⟩; simp (maxSteps := 4000000) only [go_sem, gj, Hour.row]) | (refine ⟨_, .given (hf := k1) (hd := rfl) (ha := rfl), ?_⟩; simp (maxSteps := 4000000) only [go_sem, gj, Hour.row]) | (refine ⟨_, .given (hf := k2) (hd := rfl) (ha := rfl), ?_⟩; simp (maxSteps := 4000000) only [go_sem, gj, Hour.row]) | (refine ⟨_, .given (hf := k3) (hd := rfl) (ha := rfl), ?_⟩; simp (maxSteps := 4000000) only [go_sem, gj, Hour.row]))); refine hK _ ?_; clear hK K) | refine walkL_nil ?_ | refine walkL_ret ?_ | refine walkL_exit ?_ | refine blockA_here ?_ | refine blockA_other rfl ?_ | refine blockA_ret ?_ | refine blockA_normal ?_ | refine thenA_ret ?_ | refine thenA_exit ?_ | refine thenA_normal ?_)
                      simp (maxSteps := 4000000) only [go_sem, hbad (by rw [hh]; rfl)]
                    · repeat (first | refine walkL_true rfl ?_ | refine walkL_false rfl ?_ | refine walkL_seq ?_ | refine walkL_skip ?_ | refine walkL_block ?_ | (refine walkL_region fun K hK => ?_; simp (maxSteps := 4000000) only [go_sem, gj, Hour.row, hwj]; (repeat (first | (refine ⟨_, .lent (hf := k1) (hd := rfl) (hr := rfl), ?_⟩; simp (maxSteps := 4000000) only [go_sem, gj, Hour.row, hwj]) | (refine ⟨_, .lent (hf := k2) (hd := rfl) (hr := rfl), ?_⟩; simp (maxSteps := 4000000) only [go_sem, gj, Hour.row, hwj]) | (refine ⟨_, .lent (hf := k3) (hd := rfl) (hr := rfl), ?_⟩; simp (maxSteps := 4000000) only [go_sem, gj, Hour.row, hwj]) | (refine ⟨_, .given (hf := k1) (hd := rfl) (ha := rfl), ?_⟩; simp (maxSteps := 4000000) only [go_sem, gj, Hour.row, hwj]) | (refine ⟨_, .given (hf := k2) (hd := rfl) (ha := rfl), ?_⟩; simp (maxSteps := 4000000) only [go_sem, gj, Hour.row, hwj]) | (refine ⟨_, .given (hf := k3) (hd := rfl) (ha := rfl), ?_⟩; simp (maxSteps := 4000000) only [go_sem, gj, Hour.row, hwj]))); refine hK _ ?_; clear hK K) | refine walkL_nil ?_ | refine walkL_ret ?_ | refine walkL_exit ?_ | refine blockA_here ?_ | refine blockA_other rfl ?_ | refine blockA_ret ?_ | refine blockA_normal ?_ | refine thenA_ret ?_ | refine thenA_exit ?_ | refine thenA_normal ?_)
                      refine ⟨rfl, j + 1, ?_, ⟨hltj, all_take_succ hxj hallj (by rw [hh]; rfl)⟩, by omega⟩
                      refine weak_of [] ?_ ?_ rfl rfl <;> simp [lessT, lessM, lessB, AV.less]
              · have he : j = l.length := by (have : ¬ j < l.length := by simpa using hb); omega
                subst he
                rw [List.take_length] at hallj
                repeat (first | refine walkL_seq ?_ | refine walkL_skip ?_ | refine walkL_block ?_ | (refine walkL_region fun K hK => ?_; simp (maxSteps := 4000000) only [go_sem, hw]; refine hK _ ?_; clear hK K) | refine walkL_nil ?_ | refine walkL_ret ?_ | refine walkL_exit ?_ | refine blockA_here ?_ | refine blockA_other rfl ?_ | refine blockA_ret ?_ | refine blockA_normal ?_ | refine thenA_ret ?_ | refine thenA_exit ?_ | refine thenA_normal ?_)
                refine ⟨rfl, i + 1, ?_, ⟨hlt, all_take_succ hx hall (by rw [scenB, hw1, hallj]; simp [hll])⟩, by omega⟩
                refine weak_of [] ?_ ?_ rfl rfl <;> simp [lessT, lessM, lessB, AV.less]
          · have hne : ¬ (l.length : Int) = (H0.length : Int) := by simpa using q3
            have hf : scenB H0 l = false := by
              have : ((l.length : Int) == (H0.length : Int)) = false := by simpa using hne
              unfold scenB
              rw [this]
              simp
            repeat (first | refine walkL_true rfl ?_ | refine walkL_false rfl ?_ | refine walkL_seq ?_ | refine walkL_skip ?_ | refine walkL_block ?_ | (refine walkL_region fun K hK => ?_; simp (maxSteps := 4000000) only [go_sem, g1, q3]; (repeat (first | (refine ⟨_, .lent (hf := h71) (hd := rfl) (hr := rfl), ?_⟩; simp (maxSteps := 4000000) only [go_sem, g1, q3]) | (refine ⟨_, .given (hf := h71) (hd := rfl) (ha := rfl), ?_⟩; simp (maxSteps := 4000000) only [go_sem, g1, q3]))); refine hK _ ?_; clear hK K) | refine walkL_nil ?_ | refine walkL_ret ?_ | refine walkL_exit ?_ | refine blockA_here ?_ | refine blockA_other rfl ?_ | refine blockA_ret ?_ | refine blockA_normal ?_ | refine thenA_ret ?_ | refine thenA_exit ?_ | refine thenA_normal ?_)
            simp (maxSteps := 4000000) only [go_sem, hbadx l hlm hf]
        · have he : i = F.length := by (have : ¬ i < F.length := by simpa using hb); omega
          subst he
          rw [List.take_length] at hall
          repeat (first | refine walkL_seq ?_ | refine walkL_skip ?_ | refine walkL_block ?_ | (refine walkL_region fun K hK => ?_; simp (maxSteps := 4000000) only [go_sem]; refine hK _ ?_; clear hK K) | refine walkL_nil ?_ | refine walkL_ret ?_ | refine walkL_exit ?_ | refine blockA_here ?_ | refine blockA_other rfl ?_ | refine blockA_ret ?_ | refine blockA_normal ?_ | refine thenA_ret ?_ | refine thenA_exit ?_ | refine thenA_normal ?_)
          simp (maxSteps := 4000000) only [go_sem, foreF, badF, q1, ← hH0, hall]
theorem point_ok (s : Sky) : hourB (pointH s) = (withinB s.wind 0 200 && (withinB s.rain 0 100 && withinB s.temp (-50) 50)) := by
  have e : ∀ n lo hi : Int, orderedB ⟨n, n⟩ lo hi = withinB n lo hi := fun n lo hi => by
    unfold orderedB withinB
    dsimp only
    rw [decide_eq_true (Int.le_refl n), Bool.true_and]
  rw [hourB, pointH, e, e, e]
theorem f102 (F : List (List Hour)) (h0 : List Hour) (x : Int) (h : F[0]? = some h0) (hl : h0.length < 2 ^ 30) : Fn Tryz.prog 102 [.agg [.sl (scenRows F)], .i x] (.bool (withinB x 0 ((h0.length : Int) - 1))) := by
  have h71 := f30 F h0 h
  have h97 := f72 x 0 ((h0.length : Int) - 1)
  have hw : IntKind.i64.wrap ((h0.length : Int) - 1) = (h0.length : Int) - 1 := wr_small (by omega)
  refine fn_walk 10 Tryz.call102 Tryz.func102 rfl (by decide) fun J => ?_
  simp (maxSteps := 4000000) only [go_sem, St.start, Tryz.ntmps102, Tryz.results102]
  repeat (first | refine walkL_seq ?_ | refine walkL_skip ?_ | refine walkL_block ?_ | (refine walkL_region fun K hK => ?_; simp (maxSteps := 4000000) only [go_sem, hw]; (repeat (first | (refine ⟨_, .lent (hf := h71) (hd := rfl) (hr := rfl), ?_⟩; simp (maxSteps := 4000000) only [go_sem, hw]) | (refine ⟨_, .lent (hf := h97) (hd := rfl) (hr := rfl), ?_⟩; simp (maxSteps := 4000000) only [go_sem, hw]) | (refine ⟨_, .given (hf := h71) (hd := rfl) (ha := rfl), ?_⟩; simp (maxSteps := 4000000) only [go_sem, hw]) | (refine ⟨_, .given (hf := h97) (hd := rfl) (ha := rfl), ?_⟩; simp (maxSteps := 4000000) only [go_sem, hw]))); refine hK _ ?_; clear hK K) | refine walkL_nil ?_ | refine walkL_ret ?_ | refine walkL_exit ?_ | refine blockA_here ?_ | refine blockA_other rfl ?_ | refine blockA_ret ?_ | refine blockA_normal ?_ | refine thenA_ret ?_ | refine thenA_exit ?_ | refine thenA_normal ?_)
  simp (maxSteps := 4000000) only [go_sem]
def seenF (F : List (List Hour)) (seen : List Sight) : Int := if badF F then 50 else if sightsB (hd0 F).length seen then 0 else 51
theorem f54 (F : List (List Hour)) (seen : List Sight) (hs : ForeSmall F) (hsl : seen.length < 2 ^ 30) : Fn Tryz.prog 54 [.agg [.sl (scenRows F)], .sl (sightRows seen)] (.i (seenF F seen)) := by
  have h86 := f35 F hs
  cases hb : badF F
  · have hg := fore_iff.1 hb
    have hF := hg.scen
    have hH := hg.hours
    have e86 : foreF F = 0 := by simp [foreF, hb]
    rw [e86] at h86
    have h0 := headD_get (F := F) (by omega)
    obtain ⟨H0, hH0⟩ : ∃ H0, H0 = hd0 F := ⟨_, rfl⟩
    rw [← hH0] at h0 hH
    have e0 : seenF F seen = if sightsB (H0.length : Int) seen then 0 else 51 := by simp [seenF, hb, ← hH0]
    rw [e0]
    cases hlen : decide ((seen.length : Int) > 20)
    · have hlen' := of_decide_eq_false hlen
      refine fn_walk 67 Tryz.call54 Tryz.func54 rfl (by decide) fun J => ?_
      simp (maxSteps := 4000000) only [go_sem, St.start, Tryz.ntmps54, Tryz.results54]
      repeat (first | refine walkL_true rfl ?_ | refine walkL_false rfl ?_ | refine walkL_seq ?_ | refine walkL_skip ?_ | refine walkL_block ?_ | (refine walkL_region fun K hK => ?_; simp (maxSteps := 4000000) only [go_sem, hlen]; (repeat (first | (refine ⟨_, .lent (hf := h86) (hd := rfl) (hr := rfl), ?_⟩; simp (maxSteps := 4000000) only [go_sem, hlen]) | (refine ⟨_, .given (hf := h86) (hd := rfl) (ha := rfl), ?_⟩; simp (maxSteps := 4000000) only [go_sem, hlen]))); refine hK _ ?_; clear hK K) | refine walkL_nil ?_ | refine walkL_ret ?_ | refine walkL_exit ?_ | refine blockA_here ?_ | refine blockA_other rfl ?_ | refine blockA_ret ?_ | refine blockA_normal ?_ | refine thenA_ret ?_ | refine thenA_exit ?_ | refine thenA_normal ?_)
      refine walkL_loopS (fun (i : Nat) => [(5, .d (.i i))]) (fun _ => []) (fun i => i ≤ seen.length ∧ (seen.take i).all (sightOk H0.length) = true ∧ ((seen.take i).map (·.hour)).Nodup) (fun i => seen.length - i) 0 ?_ ⟨Nat.zero_le _, rfl, by simp⟩ ?_
      · simp (maxSteps := 4000000) only [go_sem]
        refine weak_of [] ?_ ?_ rfl rfl <;> simp [lessT, lessM, lessB, AV.less]
      · intro i ⟨hi, hall, hnd⟩
        simp (maxSteps := 4000000) only [go_sem]
        repeat (first | refine walkL_seq ?_ | refine walkL_skip ?_ | refine walkL_block ?_ | (refine walkL_region fun K hK => ?_; simp (maxSteps := 4000000) only [go_sem]; refine hK _ ?_; clear hK K) | refine walkL_nil ?_ | refine walkL_ret ?_ | refine walkL_exit ?_ | refine blockA_here ?_ | refine blockA_other rfl ?_ | refine blockA_ret ?_ | refine blockA_normal ?_ | refine thenA_ret ?_ | refine thenA_exit ?_ | refine thenA_normal ?_)
        refine walkL_cond rfl (fun hb => ?_) (fun hb => ?_)
        · have hlt : i < seen.length := by simpa using hb
          have hw : IntKind.i64.wrap ((i : Int) + 1) = ((i + 1 : Nat) : Int) := by rw [wr_small (by omega)]; simp
          obtain ⟨s, hx⟩ : ∃ s, seen[i]? = some s := ⟨_, List.getElem?_eq_getElem hlt⟩
          have g1 := sightRows_at hx
          have htk : seen.take (i + 1) = seen.take i ++ [s] := by rw [List.take_add_one, hx]; rfl
          have k0 := f102 F H0 s.hour h0 (by omega)
          have k1 := f72 s.sky.wind 0 200
          have k2 := f72 s.sky.rain 0 100
          have k3 := f72 s.sky.temp (-50) 50
          obtain ⟨b0, e0⟩ : ∃ b, b = withinB s.hour 0 ((H0.length : Int) - 1) := ⟨_, rfl⟩
          obtain ⟨b1, e1⟩ : ∃ b, b = withinB s.sky.wind 0 200 := ⟨_, rfl⟩
          obtain ⟨b2, e2⟩ : ∃ b, b = withinB s.sky.rain 0 100 := ⟨_, rfl⟩
          obtain ⟨b3, e3⟩ : ∃ b, b = withinB s.sky.temp (-50) 50 := ⟨_, rfl⟩
          have hh : sightOk H0.length s = (b0 && (b1 && (b2 && b3))) := by rw [sightOk, point_ok, e0, e1, e2, e3]
          rw [← e0] at k0
          rw [← e1] at k1
          rw [← e2] at k2
          rw [← e3] at k3
          have hbad : sightOk H0.length s = false → sightsB (H0.length : Int) seen = false := fun hf => by rw [sightsB, all_of_get hx hf]; rfl
          cases b0
          · repeat (first | refine walkL_true rfl ?_ | refine walkL_false rfl ?_ | refine walkL_seq ?_ | refine walkL_skip ?_ | refine walkL_block ?_ | (refine walkL_region fun K hK => ?_; simp (maxSteps := 4000000) only [go_sem, g1, Sight.row]; (repeat (first | (refine ⟨_, .lent (hf := k0) (hd := rfl) (hr := rfl), ?_⟩; simp (maxSteps := 4000000) only [go_sem, g1, Sight.row]) | (refine ⟨_, .given (hf := k0) (hd := rfl) (ha := rfl), ?_⟩; simp (maxSteps := 4000000) only [go_sem, g1, Sight.row]))); refine hK _ ?_; clear hK K) | (refine walkL_drawn (by kernel_rfl) (by kernel_rfl) fun K hK => ?_; simp (maxSteps := 4000000) only [go_sem, g1, Sight.row]; (repeat (first | (refine ⟨_, .fn (hf := k0) (hd := rfl) (hr := .inl rfl), ?_⟩; simp (maxSteps := 4000000) only [go_sem, g1, Sight.row]))); refine ⟨by kernel_rfl, hK _ ?_⟩; clear hK K) | refine walkL_nil ?_ | refine walkL_ret ?_ | refine walkL_exit ?_ | refine blockA_here ?_ | refine blockA_other rfl ?_ | refine blockA_ret ?_ | refine blockA_normal ?_ | refine thenA_ret ?_ | refine thenA_exit ?_ | refine thenA_normal ?_)
            simp (maxSteps := 4000000) only [go_sem, hbad (by rw [hh]; rfl)]
          cases b1
          · repeat (first | refine walkL_true rfl ?_ | refine walkL_false rfl ?_ | refine walkL_seq ?_ | refine walkL_skip ?_ | refine walkL_block ?_ | (refine walkL_region fun K hK => ?_; simp (maxSteps := 4000000) only [go_sem, g1, Sight.row]; (repeat (first | (refine ⟨_, .lent (hf := k0) (hd := rfl) (hr := rfl), ?_⟩; simp (maxSteps := 4000000) only [go_sem, g1, Sight.row]) | (refine ⟨_, .lent (hf := k1) (hd := rfl) (hr := rfl), ?_⟩; simp (maxSteps := 4000000) only [go_sem, g1, Sight.row]) | (refine ⟨_, .given (hf := k0) (hd := rfl) (ha := rfl), ?_⟩; simp (maxSteps := 4000000) only [go_sem, g1, Sight.row]) | (refine ⟨_, .given (hf := k1) (hd := rfl) (ha := rfl), ?_⟩; simp (maxSteps := 4000000) only [go_sem, g1, Sight.row]))); refine hK _ ?_; clear hK K) | (refine walkL_drawn (by kernel_rfl) (by kernel_rfl) fun K hK => ?_; simp (maxSteps := 4000000) only [go_sem, g1, Sight.row]; (repeat (first | (refine ⟨_, .fn (hf := k0) (hd := rfl) (hr := .inl rfl), ?_⟩; simp (maxSteps := 4000000) only [go_sem, g1, Sight.row]) | (refine ⟨_, .fn (hf := k1) (hd := rfl) (hr := .inl rfl), ?_⟩; simp (maxSteps := 4000000) only [go_sem, g1, Sight.row]))); refine ⟨by kernel_rfl, hK _ ?_⟩; clear hK K) | refine walkL_nil ?_ | refine walkL_ret ?_ | refine walkL_exit ?_ | refine blockA_here ?_ | refine blockA_other rfl ?_ | refine blockA_ret ?_ | refine blockA_normal ?_ | refine thenA_ret ?_ | refine thenA_exit ?_ | refine thenA_normal ?_)
            simp (maxSteps := 4000000) only [go_sem, hbad (by rw [hh]; rfl)]
          cases b2
          · repeat (first | refine walkL_true rfl ?_ | refine walkL_false rfl ?_ | refine walkL_seq ?_ | refine walkL_skip ?_ | refine walkL_block ?_ | (refine walkL_region fun K hK => ?_; simp (maxSteps := 4000000) only [go_sem, g1, Sight.row]; (repeat (first | (refine ⟨_, .lent (hf := k0) (hd := rfl) (hr := rfl), ?_⟩; simp (maxSteps := 4000000) only [go_sem, g1, Sight.row]) | (refine ⟨_, .lent (hf := k1) (hd := rfl) (hr := rfl), ?_⟩; simp (maxSteps := 4000000) only [go_sem, g1, Sight.row]) | (refine ⟨_, .lent (hf := k2) (hd := rfl) (hr := rfl), ?_⟩; simp (maxSteps := 4000000) only [go_sem, g1, Sight.row]) | (refine ⟨_, .given (hf := k0) (hd := rfl) (ha := rfl), ?_⟩; simp (maxSteps := 4000000) only [go_sem, g1, Sight.row]) | (refine ⟨_, .given (hf := k1) (hd := rfl) (ha := rfl), ?_⟩; simp (maxSteps := 4000000) only [go_sem, g1, Sight.row]) | (refine ⟨_, .given (hf := k2) (hd := rfl) (ha := rfl), ?_⟩; simp (maxSteps := 4000000) only [go_sem, g1, Sight.row]))); refine hK _ ?_; clear hK K) | (refine walkL_drawn (by kernel_rfl) (by kernel_rfl) fun K hK => ?_; simp (maxSteps := 4000000) only [go_sem, g1, Sight.row]; (repeat (first | (refine ⟨_, .fn (hf := k0) (hd := rfl) (hr := .inl rfl), ?_⟩; simp (maxSteps := 4000000) only [go_sem, g1, Sight.row]) | (refine ⟨_, .fn (hf := k1) (hd := rfl) (hr := .inl rfl), ?_⟩; simp (maxSteps := 4000000) only [go_sem, g1, Sight.row]) | (refine ⟨_, .fn (hf := k2) (hd := rfl) (hr := .inl rfl), ?_⟩; simp (maxSteps := 4000000) only [go_sem, g1, Sight.row]))); refine ⟨by kernel_rfl, hK _ ?_⟩; clear hK K) | refine walkL_nil ?_ | refine walkL_ret ?_ | refine walkL_exit ?_ | refine blockA_here ?_ | refine blockA_other rfl ?_ | refine blockA_ret ?_ | refine blockA_normal ?_ | refine thenA_ret ?_ | refine thenA_exit ?_ | refine thenA_normal ?_)
            simp (maxSteps := 4000000) only [go_sem, hbad (by rw [hh]; rfl)]
          cases b3
          · repeat (first | refine walkL_true rfl ?_ | refine walkL_false rfl ?_ | refine walkL_seq ?_ | refine walkL_skip ?_ | refine walkL_block ?_ | (refine walkL_region fun K hK => ?_; simp (maxSteps := 4000000) only [go_sem, g1, Sight.row]; (repeat (first | (refine ⟨_, .lent (hf := k0) (hd := rfl) (hr := rfl), ?_⟩; simp (maxSteps := 4000000) only [go_sem, g1, Sight.row]) | (refine ⟨_, .lent (hf := k1) (hd := rfl) (hr := rfl), ?_⟩; simp (maxSteps := 4000000) only [go_sem, g1, Sight.row]) | (refine ⟨_, .lent (hf := k2) (hd := rfl) (hr := rfl), ?_⟩; simp (maxSteps := 4000000) only [go_sem, g1, Sight.row]) | (refine ⟨_, .lent (hf := k3) (hd := rfl) (hr := rfl), ?_⟩; simp (maxSteps := 4000000) only [go_sem, g1, Sight.row]) | (refine ⟨_, .given (hf := k0) (hd := rfl) (ha := rfl), ?_⟩; simp (maxSteps := 4000000) only [go_sem, g1, Sight.row]) | (refine ⟨_, .given (hf := k1) (hd := rfl) (ha := rfl), ?_⟩; simp (maxSteps := 4000000) only [go_sem, g1, Sight.row]) | (refine ⟨_, .given (hf := k2) (hd := rfl) (ha := rfl), ?_⟩; simp (maxSteps := 4000000) only [go_sem, g1, Sight.row]) | (refine ⟨_, .given (hf := k3) (hd := rfl) (ha := rfl), ?_⟩; simp (maxSteps := 4000000) only [go_sem, g1, Sight.row]))); refine hK _ ?_; clear hK K) | (refine walkL_drawn (by kernel_rfl) (by kernel_rfl) fun K hK => ?_; simp (maxSteps := 4000000) only [go_sem, g1, Sight.row]; (repeat (first | (refine ⟨_, .fn (hf := k0) (hd := rfl) (hr := .inl rfl), ?_⟩; simp (maxSteps := 4000000) only [go_sem, g1, Sight.row]) | (refine ⟨_, .fn (hf := k1) (hd := rfl) (hr := .inl rfl), ?_⟩; simp (maxSteps := 4000000) only [go_sem, g1, Sight.row]) | (refine ⟨_, .fn (hf := k2) (hd := rfl) (hr := .inl rfl), ?_⟩; simp (maxSteps := 4000000) only [go_sem, g1, Sight.row]) | (refine ⟨_, .fn (hf := k3) (hd := rfl) (hr := .inl rfl), ?_⟩; simp (maxSteps := 4000000) only [go_sem, g1, Sight.row]))); refine ⟨by kernel_rfl, hK _ ?_⟩; clear hK K) | refine walkL_nil ?_ | refine walkL_ret ?_ | refine walkL_exit ?_ | refine blockA_here ?_ | refine blockA_other rfl ?_ | refine blockA_ret ?_ | refine blockA_normal ?_ | refine thenA_ret ?_ | refine thenA_exit ?_ | refine thenA_normal ?_)
            simp (maxSteps := 4000000) only [go_sem, hbad (by rw [hh]; rfl)]
          repeat (first | refine walkL_true rfl ?_ | refine walkL_false rfl ?_ | refine walkL_seq ?_ | refine walkL_skip ?_ | refine walkL_block ?_ | (refine walkL_region fun K hK => ?_; simp (maxSteps := 4000000) only [go_sem, g1, Sight.row]; (repeat (first | (refine ⟨_, .lent (hf := k0) (hd := rfl) (hr := rfl), ?_⟩; simp (maxSteps := 4000000) only [go_sem, g1, Sight.row]) | (refine ⟨_, .lent (hf := k1) (hd := rfl) (hr := rfl), ?_⟩; simp (maxSteps := 4000000) only [go_sem, g1, Sight.row]) | (refine ⟨_, .lent (hf := k2) (hd := rfl) (hr := rfl), ?_⟩; simp (maxSteps := 4000000) only [go_sem, g1, Sight.row]) | (refine ⟨_, .lent (hf := k3) (hd := rfl) (hr := rfl), ?_⟩; simp (maxSteps := 4000000) only [go_sem, g1, Sight.row]) | (refine ⟨_, .given (hf := k0) (hd := rfl) (ha := rfl), ?_⟩; simp (maxSteps := 4000000) only [go_sem, g1, Sight.row]) | (refine ⟨_, .given (hf := k1) (hd := rfl) (ha := rfl), ?_⟩; simp (maxSteps := 4000000) only [go_sem, g1, Sight.row]) | (refine ⟨_, .given (hf := k2) (hd := rfl) (ha := rfl), ?_⟩; simp (maxSteps := 4000000) only [go_sem, g1, Sight.row]) | (refine ⟨_, .given (hf := k3) (hd := rfl) (ha := rfl), ?_⟩; simp (maxSteps := 4000000) only [go_sem, g1, Sight.row]))); refine hK _ ?_; clear hK K) | (refine walkL_drawn (by kernel_rfl) (by kernel_rfl) fun K hK => ?_; simp (maxSteps := 4000000) only [go_sem, g1, Sight.row]; (repeat (first | (refine ⟨_, .fn (hf := k0) (hd := rfl) (hr := .inl rfl), ?_⟩; simp (maxSteps := 4000000) only [go_sem, g1, Sight.row]) | (refine ⟨_, .fn (hf := k1) (hd := rfl) (hr := .inl rfl), ?_⟩; simp (maxSteps := 4000000) only [go_sem, g1, Sight.row]) | (refine ⟨_, .fn (hf := k2) (hd := rfl) (hr := .inl rfl), ?_⟩; simp (maxSteps := 4000000) only [go_sem, g1, Sight.row]) | (refine ⟨_, .fn (hf := k3) (hd := rfl) (hr := .inl rfl), ?_⟩; simp (maxSteps := 4000000) only [go_sem, g1, Sight.row]))); refine ⟨by kernel_rfl, hK _ ?_⟩; clear hK K) | refine walkL_nil ?_ | refine walkL_ret ?_ | refine walkL_exit ?_ | refine blockA_here ?_ | refine blockA_other rfl ?_ | refine blockA_ret ?_ | refine blockA_normal ?_ | refine thenA_ret ?_ | refine thenA_exit ?_ | refine thenA_normal ?_)
          refine walkL_loopS (fun (j : Nat) => [(7, .d (.i j))]) (fun _ => []) (fun j => j ≤ i ∧ ∀ x ∈ seen.take j, x.hour ≠ s.hour) (fun j => i - j) 0 ?_ ⟨Nat.zero_le _, by simp⟩ ?_
          · simp (maxSteps := 4000000) only [go_sem]
            refine weak_of [] ?_ ?_ rfl rfl <;> simp [lessT, lessM, lessB, AV.less]
          · intro j ⟨hj, hno⟩
            simp (maxSteps := 4000000) only [go_sem]
            repeat (first | refine walkL_seq ?_ | refine walkL_skip ?_ | refine walkL_block ?_ | (refine walkL_region fun K hK => ?_; simp (maxSteps := 4000000) only [go_sem]; refine hK _ ?_; clear hK K) | refine walkL_nil ?_ | refine walkL_ret ?_ | refine walkL_exit ?_ | refine blockA_here ?_ | refine blockA_other rfl ?_ | refine blockA_ret ?_ | refine blockA_normal ?_ | refine thenA_ret ?_ | refine thenA_exit ?_ | refine thenA_normal ?_)
            refine walkL_cond rfl (fun hb => ?_) (fun hb => ?_)
            · have hltj : j < i := by simpa using hb
              have hwj : IntKind.i64.wrap ((j : Int) + 1) = ((j + 1 : Nat) : Int) := by rw [wr_small (by omega)]; simp
              obtain ⟨y, hy⟩ : ∃ y, seen[j]? = some y := ⟨_, List.getElem?_eq_getElem (by omega)⟩
              have gj := sightRows_at hy
              cases hq : (y.hour == s.hour)
              · have hne : y.hour ≠ s.hour := by simpa using hq
                repeat (first | refine walkL_true rfl ?_ | refine walkL_false rfl ?_ | refine walkL_seq ?_ | refine walkL_skip ?_ | refine walkL_block ?_ | (refine walkL_region fun K hK => ?_; simp (maxSteps := 4000000) only [go_sem, gj, g1, Sight.row, hq, hwj]; refine hK _ ?_; clear hK K) | (refine walkL_drawn (by kernel_rfl) (by kernel_rfl) fun K hK => ?_; simp (maxSteps := 4000000) only [go_sem, gj, g1, Sight.row, hq, hwj]; refine ⟨by kernel_rfl, hK _ ?_⟩; clear hK K) | refine walkL_nil ?_ | refine walkL_ret ?_ | refine walkL_exit ?_ | refine blockA_here ?_ | refine blockA_other rfl ?_ | refine blockA_ret ?_ | refine blockA_normal ?_ | refine thenA_ret ?_ | refine thenA_exit ?_ | refine thenA_normal ?_)
                refine ⟨rfl, j + 1, ?_, ⟨hltj, fun x hx2 => ?_⟩, by omega⟩
                · refine weak_of [] ?_ ?_ rfl rfl <;> simp [lessT, lessM, lessB, AV.less]
                · rw [List.take_add_one, hy, List.mem_append] at hx2
                  rcases hx2 with hx2 | hx2
                  · exact hno x hx2
                  · have : x = y := by simpa using hx2
                    rw [this]; exact hne
              · have heq : y.hour = s.hour := by simpa using hq
                have hF : sightsB (H0.length : Int) seen = false := by
                  have : ¬ (seen.map (·.hour)).Nodup := fun hn => by
                    have h3 : (((seen.take (i + 1)).map (·.hour))).Nodup := (List.Sublist.map _ (List.take_sublist _ _)).nodup hn
                    rw [htk, List.map_append, List.nodup_append] at h3
                    refine h3.2.2 y.hour (List.mem_map.2 ⟨y, ?_, rfl⟩) s.hour (by simp) heq
                    exact List.mem_of_getElem? (i := j) (by rw [List.getElem?_take, if_pos hltj]; exact hy)
                  simp [sightsB, this]
                repeat (first | refine walkL_true rfl ?_ | refine walkL_false rfl ?_ | refine walkL_seq ?_ | refine walkL_skip ?_ | refine walkL_block ?_ | (refine walkL_region fun K hK => ?_; simp (maxSteps := 4000000) only [go_sem, gj, g1, Sight.row, hq]; refine hK _ ?_; clear hK K) | (refine walkL_drawn (by kernel_rfl) (by kernel_rfl) fun K hK => ?_; simp (maxSteps := 4000000) only [go_sem, gj, g1, Sight.row, hq]; refine ⟨by kernel_rfl, hK _ ?_⟩; clear hK K) | refine walkL_nil ?_ | refine walkL_ret ?_ | refine walkL_exit ?_ | refine blockA_here ?_ | refine blockA_other rfl ?_ | refine blockA_ret ?_ | refine blockA_normal ?_ | refine thenA_ret ?_ | refine thenA_exit ?_ | refine thenA_normal ?_)
                simp (maxSteps := 4000000) only [go_sem, hF]
            · have he : j = i := by (have : ¬ j < i := by simpa using hb); omega
              subst he
              repeat (first | refine walkL_seq ?_ | refine walkL_skip ?_ | refine walkL_block ?_ | (refine walkL_region fun K hK => ?_; simp (maxSteps := 4000000) only [go_sem, hw]; refine hK _ ?_; clear hK K) | refine walkL_nil ?_ | refine walkL_ret ?_ | refine walkL_exit ?_ | refine blockA_here ?_ | refine blockA_other rfl ?_ | refine blockA_ret ?_ | refine blockA_normal ?_ | refine thenA_ret ?_ | refine thenA_exit ?_ | refine thenA_normal ?_)
              refine ⟨rfl, j + 1, ?_, ⟨hlt, all_take_succ hx hall (by rw [hh]; rfl), ?_⟩, by omega⟩
              · refine weak_of [] ?_ ?_ rfl rfl <;> simp [lessT, lessM, lessB, AV.less]
              · rw [htk, List.map_append, List.nodup_append]
                refine ⟨hnd, by simp, fun a ha b hb e => ?_⟩
                obtain ⟨z, hz, rfl⟩ := List.mem_map.1 ha
                have : b = s.hour := by simpa using hb
                exact hno z hz (by rw [e, this])
        · have he : i = seen.length := by (have : ¬ i < seen.length := by simpa using hb); omega
          subst he
          rw [List.take_length] at hall hnd
          have hF : sightsB (H0.length : Int) seen = true := by
            simp only [sightsB, hall, Bool.true_and, Bool.and_eq_true, decide_eq_true_eq]
            exact ⟨hnd, by omega⟩
          repeat (first | refine walkL_seq ?_ | refine walkL_skip ?_ | refine walkL_block ?_ | (refine walkL_region fun K hK => ?_; simp (maxSteps := 4000000) only [go_sem]; refine hK _ ?_; clear hK K) | refine walkL_nil ?_ | refine walkL_ret ?_ | refine walkL_exit ?_ | refine blockA_here ?_ | refine blockA_other rfl ?_ | refine blockA_ret ?_ | refine blockA_normal ?_ | refine thenA_ret ?_ | refine thenA_exit ?_ | refine thenA_normal ?_)
          simp (maxSteps := 4000000) only [go_sem, hF, if_true]
    · have hlen' := of_decide_eq_true hlen
      have hF : sightsB (H0.length : Int) seen = false := by
        have : decide ((seen.length : Int) ≤ 20) = false := by simp; omega
        simp only [sightsB, this, Bool.and_false]
      rw [hF, if_neg (by decide)]
      refine fn_walk 67 Tryz.call54 Tryz.func54 rfl (by decide) fun J => ?_
      simp (maxSteps := 4000000) only [go_sem, St.start, Tryz.ntmps54, Tryz.results54]
      repeat (first | refine walkL_true rfl ?_ | refine walkL_false rfl ?_ | refine walkL_seq ?_ | refine walkL_skip ?_ | refine walkL_block ?_ | (refine walkL_region fun K hK => ?_; simp (maxSteps := 4000000) only [go_sem, hlen]; (repeat (first | (refine ⟨_, .lent (hf := h86) (hd := rfl) (hr := rfl), ?_⟩; simp (maxSteps := 4000000) only [go_sem, hlen]) | (refine ⟨_, .given (hf := h86) (hd := rfl) (ha := rfl), ?_⟩; simp (maxSteps := 4000000) only [go_sem, hlen]))); refine hK _ ?_; clear hK K) | refine walkL_nil ?_ | refine walkL_ret ?_ | refine walkL_exit ?_ | refine blockA_here ?_ | refine blockA_other rfl ?_ | refine blockA_ret ?_ | refine blockA_normal ?_ | refine thenA_ret ?_ | refine thenA_exit ?_ | refine thenA_normal ?_)
      simp (maxSteps := 4000000) only [go_sem]
  · have e86 : foreF F = 50 := by simp [foreF, hb]
    have e0 : seenF F seen = 50 := by simp [seenF, hb]
    rw [e86] at h86
    rw [e0]
    refine fn_walk 67 Tryz.call54 Tryz.func54 rfl (by decide) fun J => ?_
    simp (maxSteps := 4000000) only [go_sem, St.start, Tryz.ntmps54, Tryz.results54]
    repeat (first | refine walkL_true rfl ?_ | refine walkL_false rfl ?_ | refine walkL_seq ?_ | refine walkL_skip ?_ | refine walkL_block ?_ | (refine walkL_region fun K hK => ?_; simp (maxSteps := 4000000) only [go_sem]; (repeat (first | (refine ⟨_, .lent (hf := h86) (hd := rfl) (hr := rfl), ?_⟩; simp (maxSteps := 4000000) only [go_sem]) | (refine ⟨_, .given (hf := h86) (hd := rfl) (ha := rfl), ?_⟩; simp (maxSteps := 4000000) only [go_sem]))); refine hK _ ?_; clear hK K) | refine walkL_nil ?_ | refine walkL_ret ?_ | refine walkL_exit ?_ | refine blockA_here ?_ | refine blockA_other rfl ?_ | refine blockA_ret ?_ | refine blockA_normal ?_ | refine thenA_ret ?_ | refine thenA_exit ?_ | refine thenA_normal ?_)
    simp (maxSteps := 4000000) only [go_sem]
end Go.Ab
namespace Go.Ab
open Go.RowKit Go.Proofs
set_option maxHeartbeats 8000000
set_option maxRecDepth 20000
attribute [local irreducible] WalkL Walk
theorem f103 (s : Sky) (h : Hour) : Fn Tryz.prog 103 [.agg s.row, .agg h.row] (.bool (insideB s h)) := by
  have h1 := f101 s.wind h.wind
  have h2 := f101 s.rain h.rain
  have h3 := f101 s.temp h.temp
  rw [Span.row] at h1 h2 h3
  obtain ⟨b1, e1⟩ : ∃ b, b = withinB s.wind h.wind.lo h.wind.hi := ⟨_, rfl⟩
  obtain ⟨b2, e2⟩ : ∃ b, b = withinB s.rain h.rain.lo h.rain.hi := ⟨_, rfl⟩
  obtain ⟨b3, e3⟩ : ∃ b, b = withinB s.temp h.temp.lo h.temp.hi := ⟨_, rfl⟩
  rw [insideB, ← e1, ← e2, ← e3]
  rw [← e1] at h1
  rw [← e2] at h2
  rw [← e3] at h3
  refine fn_walk 24 Tryz.call103 Tryz.func103 rfl (by decide) fun J => ?_
  simp (maxSteps := 4000000) only [go_sem, St.start, Tryz.ntmps103, Tryz.results103, Hour.row, Sky.row]
  cases b1 <;> cases b2
  all_goals
    repeat (first | refine walkL_seq ?_ | refine walkL_skip ?_ | refine walkL_block ?_ | (refine walkL_region fun K hK => ?_; simp (maxSteps := 4000000) only [go_sem]; (repeat (first | (refine ⟨_, .lent (hf := h1) (hd := rfl) (hr := rfl), ?_⟩; simp (maxSteps := 4000000) only [go_sem]) | (refine ⟨_, .lent (hf := h2) (hd := rfl) (hr := rfl), ?_⟩; simp (maxSteps := 4000000) only [go_sem]) | (refine ⟨_, .lent (hf := h3) (hd := rfl) (hr := rfl), ?_⟩; simp (maxSteps := 4000000) only [go_sem]) | (refine ⟨_, .given (hf := h1) (hd := rfl) (ha := rfl), ?_⟩; simp (maxSteps := 4000000) only [go_sem]) | (refine ⟨_, .given (hf := h2) (hd := rfl) (ha := rfl), ?_⟩; simp (maxSteps := 4000000) only [go_sem]) | (refine ⟨_, .given (hf := h3) (hd := rfl) (ha := rfl), ?_⟩; simp (maxSteps := 4000000) only [go_sem]))); refine hK _ ?_; clear hK K) | refine walkL_nil ?_ | refine walkL_ret ?_ | refine walkL_exit ?_ | refine blockA_here ?_ | refine blockA_other rfl ?_ | refine blockA_ret ?_ | refine blockA_normal ?_ | refine thenA_ret ?_ | refine thenA_exit ?_ | refine thenA_normal ?_)
    simp (maxSteps := 4000000) only [go_sem]
theorem f57 (F : List (List Hour)) (seen : List Sight) (hg : ForeGood F) (hsi : sightsB (hd0 F).length seen = true) : Fn Tryz.prog 57 [.agg [.sl (scenRows F)], .sl (sightRows seen)] (.sl (intRows (numsOf (possL F seen)))) := by
  obtain ⟨s1, s2, s3⟩ := sights_spec hsi
  have hF := hg.scen
  have hH := hg.hours
  refine fn_walk 50 Tryz.call57 Tryz.func57 rfl (by decide) fun J => ?_
  simp (maxSteps := 4000000) only [go_sem, St.start, Tryz.ntmps57, Tryz.results57]
  repeat (first | refine walkL_seq ?_ | refine walkL_skip ?_ | refine walkL_block ?_ | (refine walkL_region fun K hK => ?_; simp (maxSteps := 4000000) only [go_sem]; refine hK _ ?_; clear hK K) | refine walkL_nil ?_ | refine walkL_ret ?_ | refine walkL_exit ?_ | refine blockA_here ?_ | refine blockA_other rfl ?_ | refine blockA_ret ?_ | refine blockA_normal ?_ | refine thenA_ret ?_ | refine thenA_exit ?_ | refine thenA_normal ?_)
  refine walkL_loopS (fun (i : Nat) => [(6, .d (.i i)), (5, .own 48)]) (fun i => [(48, some (.arr 3 1 (intRows (numsOf (possFrom seen (F.take i) 0)))))]) (fun i => i ≤ F.length) (fun i => F.length - i) 0 ?_ (Nat.zero_le _) ?_
  · simp (maxSteps := 4000000) only [go_sem]
    refine weak_of [48] ?_ ?_ rfl rfl <;> simp [lessT, lessM, lessB, AV.less]
    all_goals first | done | rfl
  · intro i hi
    simp (maxSteps := 4000000) only [go_sem]
    repeat (first | refine walkL_seq ?_ | refine walkL_skip ?_ | refine walkL_block ?_ | (refine walkL_region fun K hK => ?_; simp (maxSteps := 4000000) only [go_sem]; refine hK _ ?_; clear hK K) | refine walkL_nil ?_ | refine walkL_ret ?_ | refine walkL_exit ?_ | refine blockA_here ?_ | refine blockA_other rfl ?_ | refine blockA_ret ?_ | refine blockA_normal ?_ | refine thenA_ret ?_ | refine thenA_exit ?_ | refine thenA_normal ?_)
    refine walkL_cond rfl (fun hb => ?_) (fun hb => ?_)
    · have hlt : i < F.length := by simpa using hb
      have hw : IntKind.i64.wrap ((i : Int) + 1) = ((i + 1 : Nat) : Int) := by rw [wr_small (by omega)]; simp
      obtain ⟨l, hl⟩ : ∃ l, F[i]? = some l := ⟨_, List.getElem?_eq_getElem hlt⟩
      have hll := hg.len l (List.mem_of_getElem? hl)
      have g1 := scenRows_at hl
      have htk : F.take (i + 1) = F.take i ++ [l] := by rw [List.take_add_one, hl]; rfl
      have hp := possFrom_push seen l (F.take i) 0
      have htl : (F.take i).length = i := by simp; omega
      rw [← htk, htl, Nat.zero_add] at hp
      have hpl := possFrom_len seen (F.take i) 0
      rw [htl] at hpl
      have hn1 : (numsOf (possFrom seen (F.take i) 0)).length + 1 ≤ 549755813888 := by simp [numsOf]; omega
      repeat (first | refine walkL_seq ?_ | refine walkL_skip ?_ | refine walkL_block ?_ | (refine walkL_region fun K hK => ?_; simp (maxSteps := 4000000) only [go_sem]; refine hK _ ?_; clear hK K) | refine walkL_nil ?_ | refine walkL_ret ?_ | refine walkL_exit ?_ | refine blockA_here ?_ | refine blockA_other rfl ?_ | refine blockA_ret ?_ | refine blockA_normal ?_ | refine thenA_ret ?_ | refine thenA_exit ?_ | refine thenA_normal ?_)
      refine walkL_loopS (fun (k : Nat) => [(8, .d (.i k)), (7, .d (.bool (agreesB (seen.take k) l)))]) (fun _ => []) (fun k => k ≤ seen.length) (fun k => seen.length - k) 0 ?_ (Nat.zero_le _) ?_
      · simp (maxSteps := 4000000) only [go_sem]
        refine weak_of [] ?_ ?_ rfl rfl <;> simp [lessT, lessM, lessB, AV.less]
        all_goals first | done | rfl
      · intro k hk
        simp (maxSteps := 4000000) only [go_sem]
        repeat (first | refine walkL_seq ?_ | refine walkL_skip ?_ | refine walkL_block ?_ | (refine walkL_region fun K hK => ?_; simp (maxSteps := 4000000) only [go_sem]; refine hK _ ?_; clear hK K) | refine walkL_nil ?_ | refine walkL_ret ?_ | refine walkL_exit ?_ | refine blockA_here ?_ | refine blockA_other rfl ?_ | refine blockA_ret ?_ | refine blockA_normal ?_ | refine thenA_ret ?_ | refine thenA_exit ?_ | refine thenA_normal ?_)
        refine walkL_cond rfl (fun hb => ?_) (fun hb => ?_)
        · have hltk : k < seen.length := by simpa using hb
          have hwk : IntKind.i64.wrap ((k : Int) + 1) = ((k + 1 : Nat) : Int) := by rw [wr_small (by omega)]; simp
          obtain ⟨s, hsk⟩ : ∃ s, seen[k]? = some s := ⟨_, List.getElem?_eq_getElem hltk⟩
          have gs := sightRows_at hsk
          have hr := s1 s (List.mem_of_getElem? hsk)
          have gr := hourRows_at (hourAt_get (l := l) (i := s.hour) ⟨hr.1, by omega⟩)
          have h90 := f103 s.sky (hourAt l s.hour)
          rw [Sky.row, Hour.row] at h90
          have hnx : agreesB (seen.take (k + 1)) l = (agreesB (seen.take k) l && insideB s.sky (hourAt l s.hour)) := by
            rw [List.take_add_one, hsk]; simp [agreesB]
          cases hq : agreesB (seen.take k) l
          · rw [hq, Bool.false_and] at hnx
            repeat (first | refine walkL_true rfl ?_ | refine walkL_false rfl ?_ | refine walkL_seq ?_ | refine walkL_skip ?_ | refine walkL_block ?_ | (refine walkL_region fun K hK => ?_; simp (maxSteps := 4000000) only [go_sem, hwk]; refine hK _ ?_; clear hK K) | (refine walkL_drawn (by kernel_rfl) (by kernel_rfl) fun K hK => ?_; simp (maxSteps := 4000000) only [go_sem, hwk]; refine ⟨by kernel_rfl, hK _ ?_⟩; clear hK K) | refine walkL_nil ?_ | refine walkL_ret ?_ | refine walkL_exit ?_ | refine blockA_here ?_ | refine blockA_other rfl ?_ | refine blockA_ret ?_ | refine blockA_normal ?_ | refine thenA_ret ?_ | refine thenA_exit ?_ | refine thenA_normal ?_)
            refine ⟨rfl, k + 1, ?_, hltk, by omega⟩
            rw [hnx]
            refine weak_of [] ?_ ?_ rfl rfl <;> simp [lessT, lessM, lessB, AV.less]
          · rw [hq, Bool.true_and] at hnx
            repeat (first | refine walkL_true rfl ?_ | refine walkL_false rfl ?_ | refine walkL_seq ?_ | refine walkL_skip ?_ | refine walkL_block ?_ | (refine walkL_region fun K hK => ?_; simp (maxSteps := 4000000) only [go_sem, gs, g1, gr, hr.1, Sight.row, Hour.row, hwk]; (repeat (first | (refine ⟨_, .lent (hf := h90) (hd := rfl) (hr := rfl), ?_⟩; simp (maxSteps := 4000000) only [go_sem, gs, g1, gr, hr.1, Sight.row, Hour.row, hwk]) | (refine ⟨_, .given (hf := h90) (hd := rfl) (ha := rfl), ?_⟩; simp (maxSteps := 4000000) only [go_sem, gs, g1, gr, hr.1, Sight.row, Hour.row, hwk]))); refine hK _ ?_; clear hK K) | (refine walkL_drawn (by kernel_rfl) (by kernel_rfl) fun K hK => ?_; simp (maxSteps := 4000000) only [go_sem, gs, g1, gr, hr.1, Sight.row, Hour.row, hwk]; (repeat (first | (refine ⟨_, .fn (hf := h90) (hd := rfl) (hr := .inl rfl), ?_⟩; simp (maxSteps := 4000000) only [go_sem, gs, g1, gr, hr.1, Sight.row, Hour.row, hwk]))); refine ⟨by kernel_rfl, hK _ ?_⟩; clear hK K) | refine walkL_nil ?_ | refine walkL_ret ?_ | refine walkL_exit ?_ | refine blockA_here ?_ | refine blockA_other rfl ?_ | refine blockA_ret ?_ | refine blockA_normal ?_ | refine thenA_ret ?_ | refine thenA_exit ?_ | refine thenA_normal ?_)
            refine ⟨rfl, k + 1, ?_, hltk, by omega⟩
            rw [hnx]
            refine weak_of [] ?_ ?_ rfl rfl <;> simp [lessT, lessM, lessB, AV.less]
        · have he : k = seen.length := by (have : ¬ k < seen.length := by simpa using hb); omega
          subst he
          rw [List.take_length]
          cases hag : agreesB seen l
          · rw [hag, if_neg (by decide), List.append_nil] at hp
            repeat (first | refine walkL_true rfl ?_ | refine walkL_false rfl ?_ | refine walkL_seq ?_ | refine walkL_skip ?_ | refine walkL_block ?_ | (refine walkL_region fun K hK => ?_; simp (maxSteps := 4000000) only [go_sem, hw]; refine hK _ ?_; clear hK K) | refine walkL_nil ?_ | refine walkL_ret ?_ | refine walkL_exit ?_ | refine blockA_here ?_ | refine blockA_other rfl ?_ | refine blockA_ret ?_ | refine blockA_normal ?_ | refine thenA_ret ?_ | refine thenA_exit ?_ | refine thenA_normal ?_)
            refine ⟨rfl, i + 1, ?_, hlt, by omega⟩
            rw [hp]
            refine weak_of [] ?_ ?_ rfl rfl <;> simp [lessT, lessM, lessB, AV.less]
          · rw [hag, if_pos rfl] at hp
            repeat (first | refine walkL_true rfl ?_ | refine walkL_false rfl ?_ | refine walkL_seq ?_ | refine walkL_skip ?_ | refine walkL_block ?_ | (refine walkL_region fun K hK => ?_; simp (maxSteps := 4000000) only [go_sem, hn1, hw]; refine hK _ ?_; clear hK K) | refine walkL_nil ?_ | refine walkL_ret ?_ | refine walkL_exit ?_ | refine blockA_here ?_ | refine blockA_other rfl ?_ | refine blockA_ret ?_ | refine blockA_normal ?_ | refine thenA_ret ?_ | refine thenA_exit ?_ | refine thenA_normal ?_)
            refine ⟨rfl, i + 1, ?_, hlt, by omega⟩
            rw [hp, nums_push]
            refine weak_of [] ?_ ?_ rfl rfl <;> simp [lessT, lessM, lessB, AV.less]
            all_goals first | done | rfl
    · have he : i = F.length := by (have : ¬ i < F.length := by simpa using hb); omega
      subst he
      rw [List.take_length]
      repeat (first | refine walkL_seq ?_ | refine walkL_skip ?_ | refine walkL_block ?_ | (refine walkL_region fun K hK => ?_; simp (maxSteps := 4000000) only [go_sem]; refine hK _ ?_; clear hK K) | refine walkL_nil ?_ | refine walkL_ret ?_ | refine walkL_exit ?_ | refine blockA_here ?_ | refine blockA_other rfl ?_ | refine blockA_ret ?_ | refine blockA_normal ?_ | refine thenA_ret ?_ | refine thenA_exit ?_ | refine thenA_normal ?_)
      simp (maxSteps := 4000000) only [go_sem]
      rfl
end Go.Ab
namespace Go.Ab
open Go.RowKit Go.Proofs
set_option maxHeartbeats 8000000
set_option maxRecDepth 20000
attribute [local irreducible] WalkL Walk
def eqAll : List Hour → List Sky → Bool
  | [], [] => true
  | h :: l, s :: m => insideB s h && eqAll l m
  | _, _ => false
theorem f147 (xs : List (List Hour)) (g : Nat) (caps : List DV) (q : (List Hour) → Bool) (hq : ∀ s ∈ xs, Fn Tryz.prog g (.sl (hourRows s) :: caps) (.bool (q s))) (hl : xs.length < 2 ^ 62) : Fn Tryz.prog 147 [.sl (scenRows xs), .fn g caps] (.i (idxFrom q xs 0)) := by
  refine fn_walk 19 Tryz.call147 Tryz.func147 rfl (by decide) fun J => ?_
  simp (maxSteps := 4000000) only [go_sem, St.start, Tryz.ntmps147, Tryz.results147]
  repeat (first | refine walkL_seq ?_ | refine walkL_skip ?_ | refine walkL_block ?_ | (refine walkL_region fun K hK => ?_; simp (maxSteps := 4000000) only [go_sem]; refine hK _ ?_; clear hK K) | refine walkL_nil ?_ | refine walkL_ret ?_ | refine walkL_exit ?_ | refine blockA_here ?_ | refine blockA_other rfl ?_ | refine blockA_ret ?_ | refine blockA_normal ?_ | refine thenA_ret ?_ | refine thenA_exit ?_ | refine thenA_normal ?_)
  refine walkL_loopS (fun (i : Nat) => [(8, .d (.i i))]) (fun _ => []) (fun i => i ≤ xs.length ∧ idxFrom q xs 0 = idxFrom q (xs.drop i) i) (fun i => xs.length - i) 0 ?_ ⟨Nat.zero_le _, rfl⟩ ?_
  · simp (maxSteps := 4000000) only [go_sem]
    refine weak_of [] ?_ ?_ rfl rfl <;> simp [lessT, lessM, lessB, AV.less]
  · intro i ⟨hi, hq0⟩
    simp (maxSteps := 4000000) only [go_sem]
    repeat (first | refine walkL_seq ?_ | refine walkL_skip ?_ | refine walkL_block ?_ | (refine walkL_region fun K hK => ?_; simp (maxSteps := 4000000) only [go_sem]; refine hK _ ?_; clear hK K) | refine walkL_nil ?_ | refine walkL_ret ?_ | refine walkL_exit ?_ | refine blockA_here ?_ | refine blockA_other rfl ?_ | refine blockA_ret ?_ | refine blockA_normal ?_ | refine thenA_ret ?_ | refine thenA_exit ?_ | refine thenA_normal ?_)
    refine walkL_cond rfl (fun hb => ?_) (fun hb => ?_)
    · have hlt : i < xs.length := by simpa using hb
      have hw : IntKind.i64.wrap ((i : Int) + 1) = ((i + 1 : Nat) : Int) := by rw [wr_small (by omega)]; simp
      obtain ⟨s, hs⟩ : ∃ s, xs[i]? = some s := ⟨_, List.getElem?_eq_getElem hlt⟩
      rw [drop_get hs, idxFrom] at hq0
      repeat (first | refine walkL_seq ?_ | refine walkL_skip ?_ | refine walkL_block ?_ | (refine walkL_region fun K hK => ?_; simp (maxSteps := 4000000) only [go_sem]; refine hK _ ?_; clear hK K) | refine walkL_nil ?_ | refine walkL_ret ?_ | refine walkL_exit ?_ | refine blockA_here ?_ | refine blockA_other rfl ?_ | refine blockA_ret ?_ | refine blockA_normal ?_ | refine thenA_ret ?_ | refine thenA_exit ?_ | refine thenA_normal ?_)
      refine walkL_region fun K hK => ?_
      simp (maxSteps := 4000000) only [go_sem, hs, List.getElem?_map, scenRows_at hs, hw]
      refine ⟨_, .lent (hf := hq s (List.mem_of_getElem? hs)) (hd := reify_caps _ _ _ _ rfl) (hr := rfl), ?_⟩
      simp (maxSteps := 4000000) only [go_sem]
      refine hK _ ?_
      clear hK K
      refine walkL_cond rfl (fun hc => ?_) (fun hc => ?_)
      · rw [hc, if_pos rfl] at hq0
        repeat (first | refine walkL_seq ?_ | refine walkL_skip ?_ | refine walkL_block ?_ | (refine walkL_region fun K hK => ?_; simp (maxSteps := 4000000) only [go_sem]; refine hK _ ?_; clear hK K) | refine walkL_nil ?_ | refine walkL_ret ?_ | refine walkL_exit ?_ | refine blockA_here ?_ | refine blockA_other rfl ?_ | refine blockA_ret ?_ | refine blockA_normal ?_ | refine thenA_ret ?_ | refine thenA_exit ?_ | refine thenA_normal ?_)
        simp (maxSteps := 4000000) only [go_sem, hq0]
      · rw [hc] at hq0
        repeat (first | refine walkL_seq ?_ | refine walkL_skip ?_ | refine walkL_block ?_ | (refine walkL_region fun K hK => ?_; simp (maxSteps := 4000000) only [go_sem, hw]; refine hK _ ?_; clear hK K) | refine walkL_nil ?_ | refine walkL_ret ?_ | refine walkL_exit ?_ | refine blockA_here ?_ | refine blockA_other rfl ?_ | refine blockA_ret ?_ | refine blockA_normal ?_ | refine thenA_ret ?_ | refine thenA_exit ?_ | refine thenA_normal ?_)
        refine ⟨rfl, i + 1, ?_, ⟨hlt, hq0⟩, by omega⟩
        refine weak_of [] ?_ ?_ rfl rfl <;> simp [lessT, lessM, lessB, AV.less]
    · have he : i = xs.length := by (have : ¬ i < xs.length := by simpa using hb); omega
      subst he
      repeat (first | refine walkL_seq ?_ | refine walkL_skip ?_ | refine walkL_block ?_ | (refine walkL_region fun K hK => ?_; simp (maxSteps := 4000000) only [go_sem]; refine hK _ ?_; clear hK K) | refine walkL_nil ?_ | refine walkL_ret ?_ | refine walkL_exit ?_ | refine blockA_here ?_ | refine blockA_other rfl ?_ | refine blockA_ret ?_ | refine blockA_normal ?_ | refine thenA_ret ?_ | refine thenA_exit ?_ | refine thenA_normal ?_)
      simp (maxSteps := 4000000) only [go_sem, hq0, List.drop_length, idxFrom]
theorem f115 (xs : List (List Hour)) (g : Nat) (caps : List DV) (q : (List Hour) → Bool) (hq : ∀ s ∈ xs, Fn Tryz.prog g (.sl (hourRows s) :: caps) (.bool (q s))) (hl : xs.length < 2 ^ 62) : Fn Tryz.prog 115 [.sl (scenRows xs), .fn g caps] (.bool (xs.any q)) := by
  refine fn_walk 9 Tryz.call115 Tryz.func115 rfl (by decide) fun J => ?_
  simp (maxSteps := 4000000) only [go_sem, St.start, Tryz.ntmps115, Tryz.results115]
  repeat (first | refine walkL_seq ?_ | refine walkL_skip ?_ | refine walkL_block ?_ | (refine walkL_region fun K hK => ?_; simp (maxSteps := 4000000) only [go_sem]; (repeat (first | (refine ⟨_, .lent (hf := f147 xs g caps q hq hl) (hd := rfl) (hr := rfl), ?_⟩; simp (maxSteps := 4000000) only [go_sem]) | (refine ⟨_, .given (hf := f147 xs g caps q hq hl) (hd := rfl) (ha := rfl), ?_⟩; simp (maxSteps := 4000000) only [go_sem]))); refine hK _ ?_; clear hK K) | refine walkL_nil ?_ | refine walkL_ret ?_ | refine walkL_exit ?_ | refine blockA_here ?_ | refine blockA_other rfl ?_ | refine blockA_ret ?_ | refine blockA_normal ?_ | refine thenA_ret ?_ | refine thenA_exit ?_ | refine thenA_normal ?_)
  simp (maxSteps := 4000000) only [go_sem, idxFrom_nonneg]
end Go.Ab
namespace Go.Ab
open Go.RowKit Go.Proofs
set_option maxHeartbeats 8000000
set_option maxRecDepth 40000
attribute [local irreducible] WalkL Walk
theorem f39 (lo hi : Int) : Fn Tryz.prog 39 [.i lo, .i hi] (.agg [.i lo, .i hi]) := by
  refine fn_walk 8 Tryz.call39 Tryz.func39 rfl (by decide) fun J => ?_
  simp (maxSteps := 4000000) only [go_sem, St.start, Tryz.ntmps39, Tryz.results39]
  repeat (first | refine walkL_seq ?_ | refine walkL_skip ?_ | refine walkL_block ?_ | (refine walkL_region fun K hK => ?_; simp (maxSteps := 4000000) only [go_sem]; refine hK _ ?_; clear hK K) | refine walkL_nil ?_ | refine walkL_ret ?_ | refine walkL_exit ?_ | refine blockA_here ?_ | refine blockA_other rfl ?_ | refine blockA_ret ?_ | refine blockA_normal ?_ | refine thenA_ret ?_ | refine thenA_exit ?_ | refine thenA_normal ?_)
  simp (maxSteps := 4000000) only [go_sem]
def exH (lo hi : Int) : Hour := ⟨⟨lo, hi⟩, ⟨0, 0⟩, ⟨0, 10⟩⟩
theorem f83 (lo hi : Int) : Fn Tryz.prog 83 [.i lo, .i hi] (.agg (exH lo hi).row) := by
  have h1 := f39 lo hi
  have h2 := f39 0 10
  refine fn_walk 10 Tryz.call83 Tryz.func83 rfl (by decide) fun J => ?_
  simp (maxSteps := 4000000) only [go_sem, St.start, Tryz.ntmps83, Tryz.results83]
  repeat (first | refine walkL_seq ?_ | refine walkL_skip ?_ | refine walkL_block ?_ | (refine walkL_region fun K hK => ?_; simp (maxSteps := 4000000) only [go_sem]; (repeat (first | (refine ⟨_, .lent (hf := h1) (hd := rfl) (hr := rfl), ?_⟩; simp (maxSteps := 4000000) only [go_sem]) | (refine ⟨_, .lent (hf := h2) (hd := rfl) (hr := rfl), ?_⟩; simp (maxSteps := 4000000) only [go_sem]) | (refine ⟨_, .given (hf := h1) (hd := rfl) (ha := rfl), ?_⟩; simp (maxSteps := 4000000) only [go_sem]) | (refine ⟨_, .given (hf := h2) (hd := rfl) (ha := rfl), ?_⟩; simp (maxSteps := 4000000) only [go_sem]))); refine hK _ ?_; clear hK K) | refine walkL_nil ?_ | refine walkL_ret ?_ | refine walkL_exit ?_ | refine blockA_here ?_ | refine blockA_other rfl ?_ | refine blockA_ret ?_ | refine blockA_normal ?_ | refine thenA_ret ?_ | refine thenA_exit ?_ | refine thenA_normal ?_)
  simp (maxSteps := 4000000) only [go_sem, exH, Hour.row]
def exF : List (List Hour) := [[exH 10 20, exH 10 20, exH 10 20, exH 10 20, exH 30 60, exH 30 60], [exH 15 45, exH 15 45, exH 10 20, exH 10 20, exH 10 20, exH 10 20]]
theorem f37 : Fn Tryz.prog 37 [] (.tup [.agg [.sl (scenRows exF)], .agg [.i 40, .i 0, .i (-5), .i 15], .agg [.i 1, .i 1, .i 40, .i 0, .i (-5), .i 15]]) := by
  have h99 := f39 (-5) 15
  have a1 := f83 10 20
  have a2 := f83 30 60
  have a3 := f83 15 45
  simp only [exH, Hour.row] at a1 a2 a3
  refine fn_walk 40 Tryz.call37 Tryz.func37 rfl (by decide) fun J => ?_
  simp (maxSteps := 4000000) only [go_sem, St.start, Tryz.ntmps37, Tryz.results37]
  repeat (first | refine walkL_seq ?_ | refine walkL_skip ?_ | refine walkL_block ?_ | (refine walkL_region fun K hK => ?_; simp (maxSteps := 4000000) only [go_sem]; (repeat (first | (refine ⟨_, .lent (hf := h99) (hd := rfl) (hr := rfl), ?_⟩; simp (maxSteps := 4000000) only [go_sem]) | (refine ⟨_, .given (hf := h99) (hd := rfl) (ha := rfl), ?_⟩; simp (maxSteps := 4000000) only [go_sem]))); refine hK _ ?_; clear hK K) | refine walkL_nil ?_ | refine walkL_ret ?_ | refine walkL_exit ?_ | refine blockA_here ?_ | refine blockA_other rfl ?_ | refine blockA_ret ?_ | refine blockA_normal ?_ | refine thenA_ret ?_ | refine thenA_exit ?_ | refine thenA_normal ?_)
  refine walkL_drawnR [19, 33] (by kernel_rfl) (by kernel_rfl) fun K hK => ?_
  simp (maxSteps := 4000000) only [go_sem]
  repeat (first | (refine ⟨_, .fn (hf := a1) (hd := rfl) (hr := .inl rfl), ?_⟩; simp (maxSteps := 4000000) only [go_sem]) | (refine ⟨_, .fn (hf := a2) (hd := rfl) (hr := .inl rfl), ?_⟩; simp (maxSteps := 4000000) only [go_sem]) | (refine ⟨_, .fn (hf := a3) (hd := rfl) (hr := .inl rfl), ?_⟩; simp (maxSteps := 4000000) only [go_sem]))
  refine ⟨by kernel_rfl, hK _ ?_⟩
  clear hK K
  repeat (first | refine walkL_seq ?_ | refine walkL_skip ?_ | refine walkL_block ?_ | (refine walkL_region fun K hK => ?_; simp (maxSteps := 4000000) only [go_sem]; refine hK _ ?_; clear hK K) | refine walkL_nil ?_ | refine walkL_ret ?_ | refine walkL_exit ?_ | refine blockA_here ?_ | refine blockA_other rfl ?_ | refine blockA_ret ?_ | refine blockA_normal ?_ | refine thenA_ret ?_ | refine thenA_exit ?_ | refine thenA_normal ?_)
  simp (maxSteps := 4000000) only [go_sem]
  rfl
end Go.Ab
namespace Go.Ab
open Go.RowKit Go.Proofs
set_option maxHeartbeats 8000000
set_option maxRecDepth 20000
attribute [local irreducible] WalkL Walk
def farL (F : List (List Hour)) : Bool := F.any fun l => decide ((l.length : Int) > 50)
def far5 (F : List (List Hour)) (seen : List Sight) : Bool :=
  (decide ((F.length : Int) > 8) || decide ((seen.length : Int) > 22)) || (farL F || (decide (foreF F = 0) && (decide ((F.length : Int) > 4) || decide (((hd0 F).length : Int) > 12))))
theorem foreF_vals (F : List (List Hour)) : foreF F = 0 ∨ foreF F = 50 := by
  unfold foreF
  split
  · exact Or.inr rfl
  · exact Or.inl rfl
theorem foreF_bad {F : List (List Hour)} (h : foreF F = 0) : badF F = false := by
  cases hb : badF F with
  | false => rfl
  | true => simp [foreF, hb] at h
theorem f7 (F : List (List Hour)) (seen : List Sight) (hs : ForeSmall F) : Fn Tryz.prog 7 [.agg [.sl (scenRows F)], .sl (sightRows seen)] (.bool (far5 F seen)) := by
  have h1 := hs.scen
  have h86 := f35 F hs
  cases q1 : decide ((F.length : Int) > 8)
  case true =>
    refine fn_walk 44 Tryz.call7 Tryz.func7 rfl (by decide) fun J => ?_
    simp (maxSteps := 4000000) only [go_sem, St.start, Tryz.ntmps7, Tryz.results7]
    repeat (first | refine walkL_true rfl ?_ | refine walkL_false rfl ?_ | refine walkL_seq ?_ | refine walkL_skip ?_ | refine walkL_block ?_ | (refine walkL_region fun K hK => ?_; simp (maxSteps := 4000000) only [go_sem, q1]; refine hK _ ?_; clear hK K) | refine walkL_nil ?_ | refine walkL_ret ?_ | refine walkL_exit ?_ | refine blockA_here ?_ | refine blockA_other rfl ?_ | refine blockA_ret ?_ | refine blockA_normal ?_ | refine thenA_ret ?_ | refine thenA_exit ?_ | refine thenA_normal ?_)
    simp (maxSteps := 4000000) only [go_sem, far5, q1]
  case false =>
  cases q2 : decide ((seen.length : Int) > 22)
  case true =>
    refine fn_walk 44 Tryz.call7 Tryz.func7 rfl (by decide) fun J => ?_
    simp (maxSteps := 4000000) only [go_sem, St.start, Tryz.ntmps7, Tryz.results7]
    repeat (first | refine walkL_true rfl ?_ | refine walkL_false rfl ?_ | refine walkL_seq ?_ | refine walkL_skip ?_ | refine walkL_block ?_ | (refine walkL_region fun K hK => ?_; simp (maxSteps := 4000000) only [go_sem, q1, q2]; refine hK _ ?_; clear hK K) | refine walkL_nil ?_ | refine walkL_ret ?_ | refine walkL_exit ?_ | refine blockA_here ?_ | refine blockA_other rfl ?_ | refine blockA_ret ?_ | refine blockA_normal ?_ | refine thenA_ret ?_ | refine thenA_exit ?_ | refine thenA_normal ?_)
    simp (maxSteps := 4000000) only [go_sem, far5, q1, q2]
  case false =>
  refine fn_walk 44 Tryz.call7 Tryz.func7 rfl (by decide) fun J => ?_
  simp (maxSteps := 4000000) only [go_sem, St.start, Tryz.ntmps7, Tryz.results7]
  repeat (first | refine walkL_true rfl ?_ | refine walkL_false rfl ?_ | refine walkL_seq ?_ | refine walkL_skip ?_ | refine walkL_block ?_ | (refine walkL_region fun K hK => ?_; simp (maxSteps := 4000000) only [go_sem, q1, q2]; refine hK _ ?_; clear hK K) | refine walkL_nil ?_ | refine walkL_ret ?_ | refine walkL_exit ?_ | refine blockA_here ?_ | refine blockA_other rfl ?_ | refine blockA_ret ?_ | refine blockA_normal ?_ | refine thenA_ret ?_ | refine thenA_exit ?_ | refine thenA_normal ?_)
  refine walkL_loopS (fun (i : Nat) => [(5, .d (.i i))]) (fun _ => []) (fun i => i ≤ F.length ∧ farL (F.take i) = false) (fun i => F.length - i) 0 ?_ ⟨Nat.zero_le _, rfl⟩ ?_
  · simp (maxSteps := 4000000) only [go_sem]
    refine weak_of [] ?_ ?_ rfl rfl <;> simp [lessT, lessM, lessB, AV.less]
  · intro i ⟨hi, hall⟩
    simp (maxSteps := 4000000) only [go_sem]
    repeat (first | refine walkL_seq ?_ | refine walkL_skip ?_ | refine walkL_block ?_ | (refine walkL_region fun K hK => ?_; simp (maxSteps := 4000000) only [go_sem]; refine hK _ ?_; clear hK K) | refine walkL_nil ?_ | refine walkL_ret ?_ | refine walkL_exit ?_ | refine blockA_here ?_ | refine blockA_other rfl ?_ | refine blockA_ret ?_ | refine blockA_normal ?_ | refine thenA_ret ?_ | refine thenA_exit ?_ | refine thenA_normal ?_)
    refine walkL_cond rfl (fun hb => ?_) (fun hb => ?_)
    · have hlt : i < F.length := by simpa using hb
      have hw : IntKind.i64.wrap ((i : Int) + 1) = ((i + 1 : Nat) : Int) := by rw [wr_small (by omega)]; simp
      obtain ⟨l, hx⟩ : ∃ l, F[i]? = some l := ⟨_, List.getElem?_eq_getElem hlt⟩
      have g1 := scenRows_at hx
      cases q3 : decide ((l.length : Int) > 50)
      · repeat (first | refine walkL_true rfl ?_ | refine walkL_false rfl ?_ | refine walkL_seq ?_ | refine walkL_skip ?_ | refine walkL_block ?_ | (refine walkL_region fun K hK => ?_; simp (maxSteps := 4000000) only [go_sem, g1, q3, hw]; refine hK _ ?_; clear hK K) | refine walkL_nil ?_ | refine walkL_ret ?_ | refine walkL_exit ?_ | refine blockA_here ?_ | refine blockA_other rfl ?_ | refine blockA_ret ?_ | refine blockA_normal ?_ | refine thenA_ret ?_ | refine thenA_exit ?_ | refine thenA_normal ?_)
        refine ⟨rfl, i + 1, ?_, ⟨hlt, any_take_succ hx hall q3⟩, by omega⟩
        refine weak_of [] ?_ ?_ rfl rfl <;> simp [lessT, lessM, lessB, AV.less]
      · have e : farL F = true := any_of_get hx q3
        repeat (first | refine walkL_true rfl ?_ | refine walkL_false rfl ?_ | refine walkL_seq ?_ | refine walkL_skip ?_ | refine walkL_block ?_ | (refine walkL_region fun K hK => ?_; simp (maxSteps := 4000000) only [go_sem, g1, q3]; refine hK _ ?_; clear hK K) | refine walkL_nil ?_ | refine walkL_ret ?_ | refine walkL_exit ?_ | refine blockA_here ?_ | refine blockA_other rfl ?_ | refine blockA_ret ?_ | refine blockA_normal ?_ | refine thenA_ret ?_ | refine thenA_exit ?_ | refine thenA_normal ?_)
        simp (maxSteps := 4000000) only [go_sem, far5, e]
    · have he : i = F.length := by (have : ¬ i < F.length := by simpa using hb); omega
      subst he
      rw [List.take_length] at hall
      rcases foreF_vals F with e0 | e0
      · rw [e0] at h86
        have hg := fore_iff.1 (foreF_bad e0)
        have h0 := headD_get (F := F) (by have := hg.scen; omega)
        have h71 := f30 F _ h0
        change Fn Tryz.prog 30 _ (.i (hd0 F).length) at h71
        cases q4 : decide ((F.length : Int) > 4)
        · repeat (first | refine walkL_true rfl ?_ | refine walkL_false rfl ?_ | refine walkL_seq ?_ | refine walkL_skip ?_ | refine walkL_block ?_ | (refine walkL_region fun K hK => ?_; simp (maxSteps := 4000000) only [go_sem, q4]; (repeat (first | (refine ⟨_, .lent (hf := h86) (hd := rfl) (hr := rfl), ?_⟩; simp (maxSteps := 4000000) only [go_sem, q4]) | (refine ⟨_, .lent (hf := h71) (hd := rfl) (hr := rfl), ?_⟩; simp (maxSteps := 4000000) only [go_sem, q4]) | (refine ⟨_, .given (hf := h86) (hd := rfl) (ha := rfl), ?_⟩; simp (maxSteps := 4000000) only [go_sem, q4]) | (refine ⟨_, .given (hf := h71) (hd := rfl) (ha := rfl), ?_⟩; simp (maxSteps := 4000000) only [go_sem, q4]))); refine hK _ ?_; clear hK K) | refine walkL_nil ?_ | refine walkL_ret ?_ | refine walkL_exit ?_ | refine blockA_here ?_ | refine blockA_other rfl ?_ | refine blockA_ret ?_ | refine blockA_normal ?_ | refine thenA_ret ?_ | refine thenA_exit ?_ | refine thenA_normal ?_)
          simp (maxSteps := 4000000) only [go_sem, far5, q1, q2, hall, e0, q4]
        · repeat (first | refine walkL_true rfl ?_ | refine walkL_false rfl ?_ | refine walkL_seq ?_ | refine walkL_skip ?_ | refine walkL_block ?_ | (refine walkL_region fun K hK => ?_; simp (maxSteps := 4000000) only [go_sem, q4]; (repeat (first | (refine ⟨_, .lent (hf := h86) (hd := rfl) (hr := rfl), ?_⟩; simp (maxSteps := 4000000) only [go_sem, q4]) | (refine ⟨_, .lent (hf := h71) (hd := rfl) (hr := rfl), ?_⟩; simp (maxSteps := 4000000) only [go_sem, q4]) | (refine ⟨_, .given (hf := h86) (hd := rfl) (ha := rfl), ?_⟩; simp (maxSteps := 4000000) only [go_sem, q4]) | (refine ⟨_, .given (hf := h71) (hd := rfl) (ha := rfl), ?_⟩; simp (maxSteps := 4000000) only [go_sem, q4]))); refine hK _ ?_; clear hK K) | refine walkL_nil ?_ | refine walkL_ret ?_ | refine walkL_exit ?_ | refine blockA_here ?_ | refine blockA_other rfl ?_ | refine blockA_ret ?_ | refine blockA_normal ?_ | refine thenA_ret ?_ | refine thenA_exit ?_ | refine thenA_normal ?_)
          simp (maxSteps := 4000000) only [go_sem, far5, q1, q2, hall, e0, q4]
      · rw [e0] at h86
        repeat (first | refine walkL_true rfl ?_ | refine walkL_false rfl ?_ | refine walkL_seq ?_ | refine walkL_skip ?_ | refine walkL_block ?_ | (refine walkL_region fun K hK => ?_; simp (maxSteps := 4000000) only [go_sem]; (repeat (first | (refine ⟨_, .lent (hf := h86) (hd := rfl) (hr := rfl), ?_⟩; simp (maxSteps := 4000000) only [go_sem]) | (refine ⟨_, .given (hf := h86) (hd := rfl) (ha := rfl), ?_⟩; simp (maxSteps := 4000000) only [go_sem]))); refine hK _ ?_; clear hK K) | refine walkL_nil ?_ | refine walkL_ret ?_ | refine walkL_exit ?_ | refine blockA_here ?_ | refine blockA_other rfl ?_ | refine blockA_ret ?_ | refine blockA_normal ?_ | refine thenA_ret ?_ | refine thenA_exit ?_ | refine thenA_normal ?_)
        simp (maxSteps := 4000000) only [go_sem, far5, q1, q2, hall, e0]
end Go.Ab
namespace Go.Ab
open Go.RowKit Go.Proofs
set_option maxHeartbeats 8000000
set_option maxRecDepth 20000
attribute [local irreducible] WalkL Walk
def skyB (s t : Sky) : Bool := (s.wind == t.wind) && ((s.rain == t.rain) && (s.temp == t.temp))
def inAt (l : List Hour) (m : List Sky) (j : Nat) : Bool := insideB (skyAt m j) (hourAt l (j : Int))
def inTo (l : List Hour) (m : List Sky) : Nat → Bool
  | 0 => true
  | k + 1 => inTo l m k && inAt l m k
def seenEq (seen : List Sight) (m : List Sky) : Bool := seen.all fun s => skyB (skyAt m s.hour.toNat) s.sky
def scenAt (F : List (List Hour)) (k : Int) : List Hour := F.getD k.toNat []
def weB (F : List (List Hour)) (seen : List Sight) (m : List Sky) : Bool :=
  ((m.length : Int) == (hd0 F).length) && (seenEq seen m && (numsOf (possL F seen)).any fun k => inTo (scenAt F k) m m.length)
theorem nums_get {F : List (List Hour)} {seen : List Sight} {i : Nat} {k : Int} (h : (numsOf (possL F seen))[i]? = some k) :
    0 ≤ k ∧ ∃ l, F[k.toNat]? = some l ∧ scenAt F k = l ∧ agreesB seen l = true ∧ (possL F seen)[i]? = some (k.toNat, seenHours seen l) := by
  simp only [numsOf, List.getElem?_map, Option.map_eq_some_iff] at h
  obtain ⟨⟨j, l'⟩, h1, rfl⟩ := h
  obtain ⟨l, h2, h3, h4, h5⟩ := poss_get F 0 i j l' h1
  rw [Nat.sub_zero] at h3
  refine ⟨by omega, l, ?_, ?_, h5, ?_⟩
  · simpa using h3
  · simp [scenAt, h3]
  · simpa [← h4] using h1
end Go.Ab
namespace Go.Ab
open Go.RowKit Go.Proofs
set_option maxHeartbeats 8000000
set_option maxRecDepth 20000
attribute [local irreducible] WalkL Walk
theorem f10 (F : List (List Hour)) (hs : ForeSmall F) : Fn Tryz.prog 10 [.agg [.sl (scenRows F)]] (.agg [.sl (scenRows F)]) := by
  have h1 := hs.scen
  refine fn_walk 27 Tryz.call10 Tryz.func10 rfl (by decide) fun J => ?_
  simp (maxSteps := 4000000) only [go_sem, St.start, Tryz.ntmps10, Tryz.results10]
  repeat (first | refine walkL_seq ?_ | refine walkL_skip ?_ | refine walkL_block ?_ | (refine walkL_region fun K hK => ?_; simp (maxSteps := 4000000) only [go_sem]; refine hK _ ?_; clear hK K) | refine walkL_nil ?_ | refine walkL_ret ?_ | refine walkL_exit ?_ | refine blockA_here ?_ | refine blockA_other rfl ?_ | refine blockA_ret ?_ | refine blockA_normal ?_ | refine thenA_ret ?_ | refine thenA_exit ?_ | refine thenA_normal ?_)
  refine walkL_loopS (fun (i : Nat) => [(4, .d (.i i))]) (fun i => [(3, some (.box [.own 24])), (24, some (.arr 92 1 (scenRows (F.take i))))]) (fun i => i ≤ F.length) (fun i => F.length - i) 0 ?_ (Nat.zero_le _) ?_
  · simp (maxSteps := 4000000) only [go_sem]
    refine weak_of [24] ?_ ?_ rfl rfl <;> simp [lessT, lessM, lessB, AV.less]
    all_goals first | done | rfl | exact ⟨rfl, rfl⟩
  · intro i hi
    simp (maxSteps := 4000000) only [go_sem]
    repeat (first | refine walkL_seq ?_ | refine walkL_skip ?_ | refine walkL_block ?_ | (refine walkL_region fun K hK => ?_; simp (maxSteps := 4000000) only [go_sem]; refine hK _ ?_; clear hK K) | refine walkL_nil ?_ | refine walkL_ret ?_ | refine walkL_exit ?_ | refine blockA_here ?_ | refine blockA_other rfl ?_ | refine blockA_ret ?_ | refine blockA_normal ?_ | refine thenA_ret ?_ | refine thenA_exit ?_ | refine thenA_normal ?_)
    refine walkL_cond rfl (fun hb => ?_) (fun hb => ?_)
    · have hlt : i < F.length := by simpa using hb
      have hw : IntKind.i64.wrap ((i : Int) + 1) = ((i + 1 : Nat) : Int) := by rw [wr_small (by omega)]; simp
      obtain ⟨l, hx⟩ : ∃ l, F[i]? = some l := ⟨_, List.getElem?_eq_getElem hlt⟩
      have g1 := scenRows_at hx
      have hl := hs.hours l (List.mem_of_getElem? hx)
      have hl1 : l.length ≤ 549755813888 := by omega
      have e : scenRows (F.take (i + 1)) = scenRows (F.take i) ++ [[.sl (hourRows l)]] := by rw [List.take_add_one, hx]; simp [scenRows]
      obtain ⟨A, hA⟩ : ∃ A, A = F.take i := ⟨_, rfl⟩
      have hAl : A.length = i := by rw [hA]; simp; omega
      have hA1 : A.length + 1 ≤ 549755813888 := by omega
      rw [← hA] at e ⊢
      repeat (first | refine walkL_seq ?_ | refine walkL_skip ?_ | refine walkL_block ?_ | (refine walkL_region fun K hK => ?_; simp (maxSteps := 4000000) only [go_sem]; refine hK _ ?_; clear hK K) | refine walkL_nil ?_ | refine walkL_ret ?_ | refine walkL_exit ?_ | refine blockA_here ?_ | refine blockA_other rfl ?_ | refine blockA_ret ?_ | refine blockA_normal ?_ | refine thenA_ret ?_ | refine thenA_exit ?_ | refine thenA_normal ?_)
      refine walkL_drawnR [21] (by kernel_rfl) (by kernel_rfl) fun K hK => ?_
      simp (maxSteps := 4000000) only [go_sem, g1, hl1, hA1, List.nil_append]
      refine ⟨by kernel_rfl, hK _ ?_⟩
      clear hK K
      repeat (first | refine walkL_seq ?_ | refine walkL_skip ?_ | refine walkL_block ?_ | (refine walkL_region fun K hK => ?_; simp (maxSteps := 4000000) only [go_sem, hw]; refine hK _ ?_; clear hK K) | refine walkL_nil ?_ | refine walkL_ret ?_ | refine walkL_exit ?_ | refine blockA_here ?_ | refine blockA_other rfl ?_ | refine blockA_ret ?_ | refine blockA_normal ?_ | refine thenA_ret ?_ | refine thenA_exit ?_ | refine thenA_normal ?_)
      refine ⟨rfl, i + 1, ?_, hlt, by omega⟩
      rw [e]
      refine weak_of [] ?_ ?_ rfl rfl <;> simp [lessT, lessM, lessB, AV.less]
      all_goals first | done | rfl | exact ⟨rfl, rfl⟩
    · have he : i = F.length := by (have : ¬ i < F.length := by simpa using hb); omega
      subst he
      rw [List.take_length]
      repeat (first | refine walkL_seq ?_ | refine walkL_skip ?_ | refine walkL_block ?_ | (refine walkL_region fun K hK => ?_; simp (maxSteps := 4000000) only [go_sem]; refine hK _ ?_; clear hK K) | refine walkL_nil ?_ | refine walkL_ret ?_ | refine walkL_exit ?_ | refine blockA_here ?_ | refine blockA_other rfl ?_ | refine blockA_ret ?_ | refine blockA_normal ?_ | refine thenA_ret ?_ | refine thenA_exit ?_ | refine thenA_normal ?_)
      simp (maxSteps := 4000000) only [go_sem]
end Go.Ab
namespace Go.Ab
open Go.RowKit Go.Proofs
set_option maxHeartbeats 4000000
set_option maxRecDepth 20000
theorem hourAt_set {l : List Hour} {i : Nat} {x : Hour} {j : Nat} (hi : i < l.length) : hourAt (l.set i x) (j : Int) = if i = j then x else hourAt l (j : Int) := by
  unfold hourAt
  rw [Int.toNat_natCast, List.getD_eq_getElem?_getD, List.getD_eq_getElem?_getD, List.getElem?_set]
  by_cases h : i = j
  · subst h; simp [hi]
  · simp [h]
theorem seenHours_at : ∀ {seen : List Sight} {l : List Hour} (j : Nat), (∀ s ∈ seen, 0 ≤ s.hour ∧ s.hour.toNat < l.length) → (seen.map (·.hour)).Nodup →
    (∀ s ∈ seen, s.hour = j → hourAt (seenHours seen l) (j : Int) = pointH s.sky) ∧ ((∀ s ∈ seen, s.hour ≠ j) → hourAt (seenHours seen l) (j : Int) = hourAt l (j : Int))
  | [], l, j, _, _ => ⟨fun s hs => by simp at hs, fun _ => rfl⟩
  | s :: seen, l, j, hr, hn => by
    have hs := hr s (by simp)
    simp only [List.map_cons, List.nodup_cons] at hn
    have ih := seenHours_at (seen := seen) (l := l.set s.hour.toNat (pointH s.sky)) j (fun x hx => by have := hr x (by simp [hx]); simpa using this) hn.2
    have e : seenHours (s :: seen) l = seenHours seen (l.set s.hour.toNat (pointH s.sky)) := rfl
    rw [e]
    constructor
    · intro x hx hj
      rcases List.mem_cons.1 hx with rfl | hx
      · have hno : ∀ y ∈ seen, y.hour ≠ j := fun y hy he => hn.1 (List.mem_map.2 ⟨y, hy, by rw [he, hj]⟩)
        rw [ih.2 hno, hourAt_set hs.2, if_pos (by omega)]
      · exact ih.1 x hx hj
    · intro hno
      have h1 := hno s (by simp)
      rw [ih.2 (fun y hy => hno y (by simp [hy])), hourAt_set hs.2, if_neg (by omega)]
def SkyOk (s : Sky) : Prop := (0 ≤ s.wind ∧ s.wind ≤ 200) ∧ (0 ≤ s.rain ∧ s.rain ≤ 100)
end Go.Ab
namespace Go.Ab
open Go.RowKit Go.Proofs
set_option maxHeartbeats 4000000
set_option maxRecDepth 20000
end Go.Ab
namespace Go.Ab
open Go.RowKit Go.Proofs
set_option maxHeartbeats 4000000
set_option maxRecDepth 20000
attribute [local irreducible] WalkL Walk
structure Limits where
  wind : Int
  rain : Int
  temp : Span
def Limits.row (l : Limits) : List DV := [.i l.wind, .i l.rain, .i l.temp.lo, .i l.temp.hi]
def limB (l : Limits) : Bool := withinB l.wind 0 200 && (withinB l.rain 0 100 && orderedB l.temp (-50) 50)
theorem lim_iff {l : Limits} : limB l = true ↔ (0 ≤ l.wind ∧ l.wind ≤ 200) ∧ (0 ≤ l.rain ∧ l.rain ≤ 100) ∧ (-50 ≤ l.temp.lo ∧ l.temp.lo ≤ l.temp.hi ∧ l.temp.hi ≤ 50) := by
  unfold limB
  rw [Bool.and_eq_true, Bool.and_eq_true, within_iff, within_iff, ordered_iff]
theorem f104 (l : Limits) : Fn Tryz.prog 104 [.agg l.row] (.bool (limB l)) := by
  have h1 := f72 l.wind 0 200
  have h2 := f72 l.rain 0 100
  have h3 := f82 l.temp (-50) 50
  rw [Span.row] at h3
  obtain ⟨b1, e1⟩ : ∃ b, b = withinB l.wind 0 200 := ⟨_, rfl⟩
  obtain ⟨b2, e2⟩ : ∃ b, b = withinB l.rain 0 100 := ⟨_, rfl⟩
  obtain ⟨b3, e3⟩ : ∃ b, b = orderedB l.temp (-50) 50 := ⟨_, rfl⟩
  rw [limB, ← e1, ← e2, ← e3]
  rw [← e1] at h1
  rw [← e2] at h2
  rw [← e3] at h3
  refine fn_walk 16 Tryz.call104 Tryz.func104 rfl (by decide) fun J => ?_
  simp (maxSteps := 4000000) only [go_sem, St.start, Tryz.ntmps104, Tryz.results104, Limits.row]
  cases b1 <;> cases b2
  all_goals
    repeat (first | refine walkL_seq ?_ | refine walkL_skip ?_ | refine walkL_block ?_ | (refine walkL_region fun K hK => ?_; simp (maxSteps := 4000000) only [go_sem]; (repeat (first | (refine ⟨_, .lent (hf := h1) (hd := rfl) (hr := rfl), ?_⟩; simp (maxSteps := 4000000) only [go_sem]) | (refine ⟨_, .lent (hf := h2) (hd := rfl) (hr := rfl), ?_⟩; simp (maxSteps := 4000000) only [go_sem]) | (refine ⟨_, .lent (hf := h3) (hd := rfl) (hr := rfl), ?_⟩; simp (maxSteps := 4000000) only [go_sem]) | (refine ⟨_, .given (hf := h1) (hd := rfl) (ha := rfl), ?_⟩; simp (maxSteps := 4000000) only [go_sem]) | (refine ⟨_, .given (hf := h2) (hd := rfl) (ha := rfl), ?_⟩; simp (maxSteps := 4000000) only [go_sem]) | (refine ⟨_, .given (hf := h3) (hd := rfl) (ha := rfl), ?_⟩; simp (maxSteps := 4000000) only [go_sem]))); refine hK _ ?_; clear hK K) | refine walkL_nil ?_ | refine walkL_ret ?_ | refine walkL_exit ?_ | refine blockA_here ?_ | refine blockA_other rfl ?_ | refine blockA_ret ?_ | refine blockA_normal ?_ | refine thenA_ret ?_ | refine thenA_exit ?_ | refine thenA_normal ?_)
    simp (maxSteps := 4000000) only [go_sem]
theorem f89 (l : Limits) : Fn Tryz.prog 89 [.agg l.row] (.bool (limB l)) := by
  have h1 := f87 l.wind 0 200
  have h2 := f87 l.rain 0 100
  have h3 := f138 l.temp (-50) 50
  rw [Span.row] at h3
  obtain ⟨b1, e1⟩ : ∃ b, b = withinB l.wind 0 200 := ⟨_, rfl⟩
  obtain ⟨b2, e2⟩ : ∃ b, b = withinB l.rain 0 100 := ⟨_, rfl⟩
  obtain ⟨b3, e3⟩ : ∃ b, b = orderedB l.temp (-50) 50 := ⟨_, rfl⟩
  rw [limB, ← e1, ← e2, ← e3]
  rw [← e1] at h1
  rw [← e2] at h2
  rw [← e3] at h3
  refine fn_walk 19 Tryz.call89 Tryz.func89 rfl (by decide) fun J => ?_
  simp (maxSteps := 4000000) only [go_sem, St.start, Tryz.ntmps89, Tryz.results89, Limits.row]
  cases b1 <;> cases b2
  all_goals
    repeat (first | refine walkL_seq ?_ | refine walkL_skip ?_ | refine walkL_block ?_ | (refine walkL_region fun K hK => ?_; simp (maxSteps := 4000000) only [go_sem]; (repeat (first | (refine ⟨_, .lent (hf := h1) (hd := rfl) (hr := rfl), ?_⟩; simp (maxSteps := 4000000) only [go_sem]) | (refine ⟨_, .lent (hf := h2) (hd := rfl) (hr := rfl), ?_⟩; simp (maxSteps := 4000000) only [go_sem]) | (refine ⟨_, .lent (hf := h3) (hd := rfl) (hr := rfl), ?_⟩; simp (maxSteps := 4000000) only [go_sem]) | (refine ⟨_, .given (hf := h1) (hd := rfl) (ha := rfl), ?_⟩; simp (maxSteps := 4000000) only [go_sem]) | (refine ⟨_, .given (hf := h2) (hd := rfl) (ha := rfl), ?_⟩; simp (maxSteps := 4000000) only [go_sem]) | (refine ⟨_, .given (hf := h3) (hd := rfl) (ha := rfl), ?_⟩; simp (maxSteps := 4000000) only [go_sem]))); refine hK _ ?_; clear hK K) | refine walkL_nil ?_ | refine walkL_ret ?_ | refine walkL_exit ?_ | refine blockA_here ?_ | refine blockA_other rfl ?_ | refine blockA_ret ?_ | refine blockA_normal ?_ | refine thenA_ret ?_ | refine thenA_exit ?_ | refine thenA_normal ?_)
    simp (maxSteps := 4000000) only [go_sem]
def limE (l : Limits) : Int := if limB l then 0 else 52
theorem f60 (l : Limits) : Fn Tryz.prog 60 [.agg l.row] (.i (limE l)) := by
  have h := f89 l
  unfold limE
  obtain ⟨b, eb⟩ : ∃ b, b = limB l := ⟨_, rfl⟩
  rw [← eb] at h ⊢
  rw [Limits.row] at h
  cases b
  all_goals
    refine fn_walk 6 Tryz.call60 Tryz.func60 rfl (by decide) fun J => ?_
    simp (maxSteps := 4000000) only [go_sem, St.start, Tryz.ntmps60, Tryz.results60, Limits.row]
    repeat (first | refine walkL_true rfl ?_ | refine walkL_false rfl ?_ | refine walkL_seq ?_ | refine walkL_skip ?_ | refine walkL_block ?_ | (refine walkL_region fun K hK => ?_; simp (maxSteps := 4000000) only [go_sem]; (repeat (first | (refine ⟨_, .lent (hf := h) (hd := rfl) (hr := rfl), ?_⟩; simp (maxSteps := 4000000) only [go_sem]) | (refine ⟨_, .given (hf := h) (hd := rfl) (ha := rfl), ?_⟩; simp (maxSteps := 4000000) only [go_sem]))); refine hK _ ?_; clear hK K) | refine walkL_nil ?_ | refine walkL_ret ?_ | refine walkL_exit ?_ | refine blockA_here ?_ | refine blockA_other rfl ?_ | refine blockA_ret ?_ | refine blockA_normal ?_ | refine thenA_ret ?_ | refine thenA_exit ?_ | refine thenA_normal ?_)
    simp (maxSteps := 4000000) only [go_sem]
def keptB (s : Sky) (l : Limits) : Bool := decide (s.wind ≤ l.wind) && (decide (s.rain ≤ l.rain) && withinB s.temp l.temp.lo l.temp.hi)
def alwaysB (l : Limits) (h : Hour) : Bool := decide (h.wind.hi ≤ l.wind) && (decide (h.rain.hi ≤ l.rain) && (decide (l.temp.lo ≤ h.temp.lo) && decide (h.temp.hi ≤ l.temp.hi)))
def everB (l : Limits) (h : Hour) : Bool := decide (h.wind.lo ≤ l.wind) && (decide (h.rain.lo ≤ l.rain) && decide (max l.temp.lo h.temp.lo ≤ min l.temp.hi h.temp.hi))
theorem f63 (l : Limits) (h : Hour) : Fn Tryz.prog 63 [.agg l.row, .agg h.row] (.bool (alwaysB l h)) := by
  refine fn_walk 41 Tryz.call63 Tryz.func63 rfl (by decide) fun J => ?_
  simp (maxSteps := 4000000) only [go_sem, St.start, Tryz.ntmps63, Tryz.results63, Limits.row, Hour.row]
  cases q1 : decide (h.wind.hi ≤ l.wind) <;> cases q2 : decide (h.rain.hi ≤ l.rain) <;> cases q3 : decide (l.temp.lo ≤ h.temp.lo)
  all_goals
    repeat (first | refine walkL_seq ?_ | refine walkL_skip ?_ | refine walkL_block ?_ | (refine walkL_region fun K hK => ?_; simp (maxSteps := 4000000) only [go_sem, q1, q2, q3]; refine hK _ ?_; clear hK K) | refine walkL_nil ?_ | refine walkL_ret ?_ | refine walkL_exit ?_ | refine blockA_here ?_ | refine blockA_other rfl ?_ | refine blockA_ret ?_ | refine blockA_normal ?_ | refine thenA_ret ?_ | refine thenA_exit ?_ | refine thenA_normal ?_)
    simp (maxSteps := 4000000) only [go_sem, alwaysB, q1, q2, q3]
theorem f66 (l : Limits) (h : Hour) : Fn Tryz.prog 66 [.agg l.row, .agg h.row] (.bool (everB l h)) := by
  refine fn_walk 40 Tryz.call66 Tryz.func66 rfl (by decide) fun J => ?_
  simp (maxSteps := 4000000) only [go_sem, St.start, Tryz.ntmps66, Tryz.results66, Limits.row, Hour.row]
  cases q1 : decide (h.wind.lo ≤ l.wind) <;> cases q2 : decide (h.rain.lo ≤ l.rain)
  all_goals
    repeat (first | refine walkL_seq ?_ | refine walkL_skip ?_ | refine walkL_block ?_ | (refine walkL_region fun K hK => ?_; simp (maxSteps := 4000000) only [go_sem, q1, q2]; refine hK _ ?_; clear hK K) | refine walkL_nil ?_ | refine walkL_ret ?_ | refine walkL_exit ?_ | refine blockA_here ?_ | refine blockA_other rfl ?_ | refine blockA_ret ?_ | refine blockA_normal ?_ | refine thenA_ret ?_ | refine thenA_exit ?_ | refine thenA_normal ?_)
    simp (maxSteps := 4000000) only [go_sem, everB, q1, q2]
theorem f62 (l : Limits) (hs : List Hour) (i : Nat) (h : Hour) (hi : hs[i]? = some h) : Fn Tryz.prog 62 [.sl (hourRows hs), .i i, .ptr l.row 0] (.bool (alwaysB l h)) := by
  have g1 := hourRows_at hi
  have h43 := f63 l h
  rw [Limits.row, Hour.row] at h43
  refine fn_walk 12 Tryz.call62 Tryz.func62 rfl (by decide) fun J => ?_
  simp (maxSteps := 4000000) only [go_sem, St.start, Tryz.ntmps62, Tryz.results62, Limits.row]
  repeat (first | refine walkL_seq ?_ | refine walkL_skip ?_ | refine walkL_block ?_ | (refine walkL_region fun K hK => ?_; simp (maxSteps := 4000000) only [go_sem]; refine hK _ ?_; clear hK K) | refine walkL_nil ?_ | refine walkL_ret ?_ | refine walkL_exit ?_ | refine blockA_here ?_ | refine blockA_other rfl ?_ | refine blockA_ret ?_ | refine blockA_normal ?_ | refine thenA_ret ?_ | refine thenA_exit ?_ | refine thenA_normal ?_)
  refine walkL_drawn (by kernel_rfl) (by kernel_rfl) fun K hK => ?_
  simp (maxSteps := 4000000) only [go_sem, g1, Hour.row]
  refine ⟨_, .fn (hf := h43) (hd := rfl) (hr := .inr rfl), ?_⟩
  simp (maxSteps := 4000000) only [go_sem]
  refine ⟨by kernel_rfl, hK _ ?_⟩
  clear hK K
  repeat (first | refine walkL_seq ?_ | refine walkL_skip ?_ | refine walkL_block ?_ | (refine walkL_region fun K hK => ?_; simp (maxSteps := 4000000) only [go_sem]; refine hK _ ?_; clear hK K) | refine walkL_nil ?_ | refine walkL_ret ?_ | refine walkL_exit ?_ | refine blockA_here ?_ | refine blockA_other rfl ?_ | refine blockA_ret ?_ | refine blockA_normal ?_ | refine thenA_ret ?_ | refine thenA_exit ?_ | refine thenA_normal ?_)
  simp (maxSteps := 4000000) only [go_sem]
theorem f65 (l : Limits) (hs : List Hour) (i : Nat) (h : Hour) (hi : hs[i]? = some h) : Fn Tryz.prog 65 [.sl (hourRows hs), .i i, .ptr l.row 0] (.bool (everB l h)) := by
  have g1 := hourRows_at hi
  have h46 := f66 l h
  rw [Limits.row, Hour.row] at h46
  refine fn_walk 12 Tryz.call65 Tryz.func65 rfl (by decide) fun J => ?_
  simp (maxSteps := 4000000) only [go_sem, St.start, Tryz.ntmps65, Tryz.results65, Limits.row]
  repeat (first | refine walkL_seq ?_ | refine walkL_skip ?_ | refine walkL_block ?_ | (refine walkL_region fun K hK => ?_; simp (maxSteps := 4000000) only [go_sem]; refine hK _ ?_; clear hK K) | refine walkL_nil ?_ | refine walkL_ret ?_ | refine walkL_exit ?_ | refine blockA_here ?_ | refine blockA_other rfl ?_ | refine blockA_ret ?_ | refine blockA_normal ?_ | refine thenA_ret ?_ | refine thenA_exit ?_ | refine thenA_normal ?_)
  refine walkL_drawn (by kernel_rfl) (by kernel_rfl) fun K hK => ?_
  simp (maxSteps := 4000000) only [go_sem, g1, Hour.row]
  refine ⟨_, .fn (hf := h46) (hd := rfl) (hr := .inr rfl), ?_⟩
  simp (maxSteps := 4000000) only [go_sem]
  refine ⟨by kernel_rfl, hK _ ?_⟩
  clear hK K
  repeat (first | refine walkL_seq ?_ | refine walkL_skip ?_ | refine walkL_block ?_ | (refine walkL_region fun K hK => ?_; simp (maxSteps := 4000000) only [go_sem]; refine hK _ ?_; clear hK K) | refine walkL_nil ?_ | refine walkL_ret ?_ | refine walkL_exit ?_ | refine blockA_here ?_ | refine blockA_other rfl ?_ | refine blockA_ret ?_ | refine blockA_normal ?_ | refine thenA_ret ?_ | refine thenA_exit ?_ | refine thenA_normal ?_)
  simp (maxSteps := 4000000) only [go_sem]
def hullS (a b : Span) : Span := ⟨min a.lo b.lo, max a.hi b.hi⟩
theorem f95 (n : Int) : Fn Tryz.prog 95 [.i n] (.agg [.i n, .i n]) := by
  refine fn_walk 6 Tryz.call95 Tryz.func95 rfl (by decide) fun J => ?_
  simp (maxSteps := 4000000) only [go_sem, St.start, Tryz.ntmps95, Tryz.results95]
  repeat (first | refine walkL_seq ?_ | refine walkL_skip ?_ | refine walkL_block ?_ | (refine walkL_region fun K hK => ?_; simp (maxSteps := 4000000) only [go_sem]; refine hK _ ?_; clear hK K) | refine walkL_nil ?_ | refine walkL_ret ?_ | refine walkL_exit ?_ | refine blockA_here ?_ | refine blockA_other rfl ?_ | refine blockA_ret ?_ | refine blockA_normal ?_ | refine thenA_ret ?_ | refine thenA_exit ?_ | refine thenA_normal ?_)
  simp (maxSteps := 4000000) only [go_sem]
end Go.Ab
namespace Go.Ab
open Go.RowKit Go.Proofs
set_option maxHeartbeats 4000000
set_option maxRecDepth 20000
attribute [local irreducible] WalkL Walk
def hullH (a b : Hour) : Hour := ⟨hullS a.wind b.wind, hullS a.rain b.rain, hullS a.temp b.temp⟩
def hullAll (S : List (List Hour)) (h : Int) : Hour := S.foldl (fun o l => hullH o (hourAt l h)) (hourAt (hd0 S) h)
def rangeF (F : List (List Hour)) (seen : List Sight) (h : Int) : Hour × Int :=
  if lookF F seen 0 (withinB h 0 ((hd0 F).length - 1)) = 0 then (hullAll (scensOf (possL F seen)) h, 0) else (noHour, lookF F seen 0 (withinB h 0 ((hd0 F).length - 1)))
theorem find_at {α : Type} {q : α → Bool} : ∀ {l : List α} {i : Nat} {x : α}, l[i]? = some x → (l.take i).any q = false → q x = true → l.find? q = some x
  | [], i, x, h, _, _ => by simp at h
  | y :: l, 0, x, h, _, hq => by
    simp at h
    subst h
    simp [hq]
  | y :: l, i + 1, x, h, h0, hq => by
    simp only [List.take_succ_cons, List.any_cons, Bool.or_eq_false_iff] at h0
    rw [List.find?_cons, h0.1]
    exact find_at (by simpa using h) h0.2 hq
theorem find_none {α : Type} {q : α → Bool} {l : List α} (h : l.any q = false) : l.find? q = none := by
  rw [List.find?_eq_none]
  intro x hx hq
  rw [List.any_eq_false] at h
  exact h x hx hq
def atF (seen : List Sight) (l : List Hour) (h : Int) : Hour := match seen.find? (fun s => s.hour == h) with
  | some s => pointH s.sky
  | none => hourAt l h
theorem atF_eq {seen : List Sight} {l : List Hour} (hr : ∀ s ∈ seen, 0 ≤ s.hour ∧ s.hour.toNat < l.length) (hn : (seen.map (·.hour)).Nodup) (j : Nat) : atF seen l (j : Int) = hourAt (seenHours seen l) (j : Int) := by
  have h := seenHours_at (seen := seen) (l := l) j hr hn
  unfold atF
  cases hf : seen.find? (fun s => s.hour == (j : Int)) with
  | none =>
    rw [List.find?_eq_none] at hf
    exact (h.2 fun s hs he => hf s hs (by simpa using he)).symm
  | some s =>
    exact (h.1 s (List.mem_of_find?_eq_some hf) (by have := List.find?_some hf; simpa using this)).symm
theorem f117 (F : List (List Hour)) (seen : List Sight) (l : List Hour) (k h : Int) (hsl : seen.length < 2 ^ 30) (hk : 0 ≤ k) (hl : F[k.toNat]? = some l) (hh : 0 ≤ h ∧ h.toNat < l.length) :
    Fn Tryz.prog 117 [.agg [.sl (scenRows F)], .sl (sightRows seen), .i k, .i h] (.agg (atF seen l h).row) := by
  refine fn_walk 48 Tryz.call117 Tryz.func117 rfl (by decide) fun J => ?_
  simp (maxSteps := 4000000) only [go_sem, St.start, Tryz.ntmps117, Tryz.results117]
  repeat (first | refine walkL_seq ?_ | refine walkL_skip ?_ | refine walkL_block ?_ | (refine walkL_region fun K hK => ?_; simp (maxSteps := 4000000) only [go_sem]; refine hK _ ?_; clear hK K) | refine walkL_nil ?_ | refine walkL_ret ?_ | refine walkL_exit ?_ | refine blockA_here ?_ | refine blockA_other rfl ?_ | refine blockA_ret ?_ | refine blockA_normal ?_ | refine thenA_ret ?_ | refine thenA_exit ?_ | refine thenA_normal ?_)
  refine walkL_loopS (fun (i : Nat) => [(9, .d (.i i))]) (fun _ => []) (fun i => i ≤ seen.length ∧ (seen.take i).any (fun s => s.hour == h) = false) (fun i => seen.length - i) 0 ?_ ⟨Nat.zero_le _, rfl⟩ ?_
  · simp (maxSteps := 4000000) only [go_sem]
    refine weak_of [] ?_ ?_ rfl rfl <;> simp [lessT, lessM, lessB, AV.less]
  · intro i ⟨hi, hall⟩
    simp (maxSteps := 4000000) only [go_sem]
    repeat (first | refine walkL_seq ?_ | refine walkL_skip ?_ | refine walkL_block ?_ | (refine walkL_region fun K hK => ?_; simp (maxSteps := 4000000) only [go_sem]; refine hK _ ?_; clear hK K) | refine walkL_nil ?_ | refine walkL_ret ?_ | refine walkL_exit ?_ | refine blockA_here ?_ | refine blockA_other rfl ?_ | refine blockA_ret ?_ | refine blockA_normal ?_ | refine thenA_ret ?_ | refine thenA_exit ?_ | refine thenA_normal ?_)
    refine walkL_cond rfl (fun hb => ?_) (fun hb => ?_)
    · have hlt : i < seen.length := by simpa using hb
      have hw : IntKind.i64.wrap ((i : Int) + 1) = ((i + 1 : Nat) : Int) := by rw [wr_small (by omega)]; simp
      obtain ⟨s, hx⟩ : ∃ s, seen[i]? = some s := ⟨_, List.getElem?_eq_getElem hlt⟩
      have g1 := sightRows_at hx
      cases q : (s.hour == h)
      · repeat (first | refine walkL_true rfl ?_ | refine walkL_false rfl ?_ | refine walkL_seq ?_ | refine walkL_skip ?_ | refine walkL_block ?_ | (refine walkL_region fun K hK => ?_; simp (maxSteps := 4000000) only [go_sem, g1, Sight.row, q, hw]; refine hK _ ?_; clear hK K) | refine walkL_nil ?_ | refine walkL_ret ?_ | refine walkL_exit ?_ | refine blockA_here ?_ | refine blockA_other rfl ?_ | refine blockA_ret ?_ | refine blockA_normal ?_ | refine thenA_ret ?_ | refine thenA_exit ?_ | refine thenA_normal ?_)
        refine ⟨rfl, i + 1, ?_, ⟨hlt, any_take_succ hx hall q⟩, by omega⟩
        refine weak_of [] ?_ ?_ rfl rfl <;> simp [lessT, lessM, lessB, AV.less]
      · have e : atF seen l h = pointH s.sky := by unfold atF; rw [find_at hx hall q]
        rw [e]
        repeat (first | refine walkL_true rfl ?_ | refine walkL_false rfl ?_ | refine walkL_seq ?_ | refine walkL_skip ?_ | refine walkL_block ?_ | (refine walkL_region fun K hK => ?_; simp (maxSteps := 4000000) only [go_sem, g1, Sight.row, q]; refine hK _ ?_; clear hK K) | refine walkL_nil ?_ | refine walkL_ret ?_ | refine walkL_exit ?_ | refine blockA_here ?_ | refine blockA_other rfl ?_ | refine blockA_ret ?_ | refine blockA_normal ?_ | refine thenA_ret ?_ | refine thenA_exit ?_ | refine thenA_normal ?_)
        refine walkL_drawn (by kernel_rfl) (by kernel_rfl) fun K hK => ?_
        simp (maxSteps := 4000000) only [go_sem]
        refine ⟨_, .fn (hf := f95 s.sky.wind) (hd := rfl) (hr := .inl rfl), ?_⟩
        simp (maxSteps := 4000000) only [go_sem]
        refine ⟨_, .fn (hf := f95 s.sky.rain) (hd := rfl) (hr := .inl rfl), ?_⟩
        simp (maxSteps := 4000000) only [go_sem]
        refine ⟨_, .fn (hf := f95 s.sky.temp) (hd := rfl) (hr := .inl rfl), ?_⟩
        simp (maxSteps := 4000000) only [go_sem]
        refine ⟨by kernel_rfl, hK _ ?_⟩
        clear hK K
        repeat (first | refine walkL_seq ?_ | refine walkL_skip ?_ | refine walkL_block ?_ | (refine walkL_region fun K hK => ?_; simp (maxSteps := 4000000) only [go_sem]; refine hK _ ?_; clear hK K) | refine walkL_nil ?_ | refine walkL_ret ?_ | refine walkL_exit ?_ | refine blockA_here ?_ | refine blockA_other rfl ?_ | refine blockA_ret ?_ | refine blockA_normal ?_ | refine thenA_ret ?_ | refine thenA_exit ?_ | refine thenA_normal ?_)
        simp (maxSteps := 4000000) only [go_sem, pointH, Hour.row]
    · have he : i = seen.length := by (have : ¬ i < seen.length := by simpa using hb); omega
      subst he
      rw [List.take_length] at hall
      have e : atF seen l h = hourAt l h := by unfold atF; rw [find_none hall]
      have g1 := scenRows_at hl
      have g2 := hourRows_at (hourAt_get hh)
      have k1 := hh.1
      rw [e]
      repeat (first | refine walkL_seq ?_ | refine walkL_skip ?_ | refine walkL_block ?_ | (refine walkL_region fun K hK => ?_; simp (maxSteps := 4000000) only [go_sem, g1, g2, Hour.row, hk, k1]; refine hK _ ?_; clear hK K) | refine walkL_nil ?_ | refine walkL_ret ?_ | refine walkL_exit ?_ | refine blockA_here ?_ | refine blockA_other rfl ?_ | refine blockA_ret ?_ | refine blockA_normal ?_ | refine thenA_ret ?_ | refine thenA_exit ?_ | refine thenA_normal ?_)
      simp (maxSteps := 4000000) only [go_sem, Hour.row]
end Go.Ab
namespace Go.Ab
open Go.RowKit Go.Proofs
set_option maxHeartbeats 4000000
set_option maxRecDepth 20000
attribute [local irreducible] WalkL Walk
def boolRows (l : List Bool) : List (List DV) := l.map fun x => [.bool x]
theorem boolRows_len (l : List Bool) : (boolRows l).length = l.length := by simp [boolRows]
theorem boolRows_at {l : List Bool} {i : Nat} {x : Bool} (h : l[i]? = some x) : (boolRows l)[i]? = some [.bool x] := by simp [boolRows, h]
theorem boolRows_head (l : List Bool) : headIs 1 (boolRows l) = true := by cases l <;> rfl
theorem boolRows_push (l : List Bool) (x : Bool) : boolRows (l ++ [x]) = boolRows l ++ [[.bool x]] := by simp [boolRows]
def spanRows (l : List Span) : List (List DV) := l.map Span.row
theorem spanRows_len (l : List Span) : (spanRows l).length = l.length := by simp [spanRows]
theorem spanRows_at {l : List Span} {i : Nat} {x : Span} (h : l[i]? = some x) : (spanRows l)[i]? = some x.row := by simp [spanRows, h]
theorem spanRows_head (l : List Span) : headIs 2 (spanRows l) = true := by cases l <;> rfl
theorem spanRows_push (l : List Span) (x : Span) : spanRows (l ++ [x]) = spanRows l ++ [x.row] := by simp [spanRows]
theorem rowsFlat_bool (l : List Bool) : rowsFlat (boolRows l) := rowsFlat_map (by intro x d hd; simp at hd; subst hd; rfl) l
theorem rowsFlat_span (l : List Span) : rowsFlat (spanRows l) := rowsFlat_map (by intro x d hd; simp [Span.row] at hd; rcases hd with rfl | rfl <;> rfl) l
attribute [go_sem] boolRows_len boolRows_head spanRows_len spanRows_head
theorem f71 (l : List Hour) (g : Nat) (a : DV) (q : Hour → Bool) (hq : ∀ h ∈ l, Fn Tryz.prog g [a, .agg h.row] (.bool (q h))) (hl : l.length < 2 ^ 30) : Fn Tryz.prog 71 [.sl (hourRows l), .bnd g [a]] (.sl (boolRows (l.map q))) := by
  refine fn_walk 21 Tryz.call71 Tryz.func71 rfl (by decide) fun J => ?_
  simp (maxSteps := 4000000) only [go_sem, St.start, Tryz.ntmps71, Tryz.results71]
  repeat (first | refine walkL_seq ?_ | refine walkL_skip ?_ | refine walkL_block ?_ | (refine walkL_region fun K hK => ?_; simp (maxSteps := 4000000) only [go_sem]; refine hK _ ?_; clear hK K) | refine walkL_nil ?_ | refine walkL_ret ?_ | refine walkL_exit ?_ | refine blockA_here ?_ | refine blockA_other rfl ?_ | refine blockA_ret ?_ | refine blockA_normal ?_ | refine thenA_ret ?_ | refine thenA_exit ?_ | refine thenA_normal ?_)
  refine walkL_loopS (fun (i : Nat) => [(9, .d (.i i)), (4, .own 18)]) (fun i => [(18, some (.arr 4 1 (boolRows ((l.take i).map q))))]) (fun i => i ≤ l.length) (fun i => l.length - i) 0 ?_ (Nat.zero_le _) ?_
  · simp (maxSteps := 4000000) only [go_sem]
    refine weak_of [18] ?_ ?_ rfl rfl <;> simp [lessT, lessM, lessB, AV.less]
    all_goals first | done | rfl
  · intro i hi
    simp (maxSteps := 4000000) only [go_sem]
    repeat (first | refine walkL_seq ?_ | refine walkL_skip ?_ | refine walkL_block ?_ | (refine walkL_region fun K hK => ?_; simp (maxSteps := 4000000) only [go_sem]; refine hK _ ?_; clear hK K) | refine walkL_nil ?_ | refine walkL_ret ?_ | refine walkL_exit ?_ | refine blockA_here ?_ | refine blockA_other rfl ?_ | refine blockA_ret ?_ | refine blockA_normal ?_ | refine thenA_ret ?_ | refine thenA_exit ?_ | refine thenA_normal ?_)
    refine walkL_cond rfl (fun hb => ?_) (fun hb => ?_)
    · have hlt : i < l.length := by simpa using hb
      have hw : IntKind.i64.wrap ((i : Int) + 1) = ((i + 1 : Nat) : Int) := by rw [wr_small (by omega)]; simp
      obtain ⟨h, hx⟩ : ∃ h, l[i]? = some h := ⟨_, List.getElem?_eq_getElem hlt⟩
      have g1 := hourRows_at hx
      have hq1 := hq h (List.mem_of_getElem? hx)
      rw [Hour.row] at hq1
      have htk : (l.take (i + 1)).map q = (l.take i).map q ++ [q h] := by rw [List.take_add_one, hx]; simp
      obtain ⟨A, hA⟩ : ∃ A, A = (l.take i).map q := ⟨_, rfl⟩
      have hAl : A.length = i := by rw [hA]; simp; omega
      have hn : A.length + 1 ≤ 549755813888 := by omega
      rw [← hA] at htk ⊢
      repeat (first | refine walkL_seq ?_ | refine walkL_skip ?_ | refine walkL_block ?_ | (refine walkL_region fun K hK => ?_; simp (maxSteps := 4000000) only [go_sem, g1, Hour.row, hn, hw]; (repeat (first | (refine ⟨_, .lent (hf := hq1) (hd := rfl) (hr := rfl), ?_⟩; simp (maxSteps := 4000000) only [go_sem, g1, Hour.row, hn, hw]) | (refine ⟨_, .given (hf := hq1) (hd := rfl) (ha := rfl), ?_⟩; simp (maxSteps := 4000000) only [go_sem, g1, Hour.row, hn, hw]))); refine hK _ ?_; clear hK K) | refine walkL_nil ?_ | refine walkL_ret ?_ | refine walkL_exit ?_ | refine blockA_here ?_ | refine blockA_other rfl ?_ | refine blockA_ret ?_ | refine blockA_normal ?_ | refine thenA_ret ?_ | refine thenA_exit ?_ | refine thenA_normal ?_)
      refine ⟨rfl, i + 1, ?_, hlt, by omega⟩
      rw [htk, boolRows_push]
      refine weak_of [] ?_ ?_ rfl rfl <;> simp [lessT, lessM, lessB, AV.less]
      all_goals first | done | rfl
    · have he : i = l.length := by (have : ¬ i < l.length := by simpa using hb); omega
      subst he
      rw [List.take_length]
      repeat (first | refine walkL_seq ?_ | refine walkL_skip ?_ | refine walkL_block ?_ | (refine walkL_region fun K hK => ?_; simp (maxSteps := 4000000) only [go_sem]; refine hK _ ?_; clear hK K) | refine walkL_nil ?_ | refine walkL_ret ?_ | refine walkL_exit ?_ | refine blockA_here ?_ | refine blockA_other rfl ?_ | refine blockA_ret ?_ | refine blockA_normal ?_ | refine thenA_ret ?_ | refine thenA_exit ?_ | refine thenA_normal ?_)
      simp (maxSteps := 4000000) only [go_sem]
def beginsFrom (n : Int) : List Bool → Nat → Int → Int
  | [], _, _ => -1
  | b :: l, i, run => if (if b then run + 1 else 0) = n then (i : Int) + 1 - n else beginsFrom n l (i + 1) (if b then run + 1 else 0)
def beginsF (l : List Bool) (n : Int) : Int := beginsFrom n l 0 0
theorem f70 (l : List Bool) (n : Int) (hn : 1 ≤ n ∧ n ≤ 1000) (hl : l.length < 2 ^ 30) : Fn Tryz.prog 70 [.sl (boolRows l), .i n] (.i (beginsF l n)) := by
  obtain ⟨S, hS⟩ : ∃ S, S = beginsF l n := ⟨_, rfl⟩
  rw [← hS]
  refine fn_walk 27 Tryz.call70 Tryz.func70 rfl (by decide) fun J => ?_
  simp (maxSteps := 4000000) only [go_sem, St.start, Tryz.ntmps70, Tryz.results70]
  repeat (first | refine walkL_seq ?_ | refine walkL_skip ?_ | refine walkL_block ?_ | (refine walkL_region fun K hK => ?_; simp (maxSteps := 4000000) only [go_sem]; refine hK _ ?_; clear hK K) | refine walkL_nil ?_ | refine walkL_ret ?_ | refine walkL_exit ?_ | refine blockA_here ?_ | refine blockA_other rfl ?_ | refine blockA_ret ?_ | refine blockA_normal ?_ | refine thenA_ret ?_ | refine thenA_exit ?_ | refine thenA_normal ?_)
  refine walkL_loopS (fun (a : Nat × Int) => [(10, .d (.i a.1)), (5, .d (.i a.2)), (6, .undef), (7, .undef)]) (fun _ => []) (fun a => a.1 ≤ l.length ∧ (0 ≤ a.2 ∧ a.2 ≤ a.1) ∧ S = beginsFrom n (l.drop a.1) a.1 a.2) (fun a => l.length - a.1) (0, 0) ?_ ⟨Nat.zero_le _, ⟨Int.le_refl _, Int.le_refl _⟩, hS⟩ ?_
  · simp (maxSteps := 4000000) only [go_sem]
    refine weak_of [] ?_ ?_ rfl rfl <;> simp [lessT, lessM, lessB, AV.less]
    all_goals first | done | rfl
  · rintro ⟨i, run⟩ ⟨hi, ⟨r0, r1⟩, hs⟩
    dsimp only at hi r0 r1 hs
    simp (maxSteps := 4000000) only [go_sem]
    repeat (first | refine walkL_seq ?_ | refine walkL_skip ?_ | refine walkL_block ?_ | (refine walkL_region fun K hK => ?_; simp (maxSteps := 4000000) only [go_sem]; refine hK _ ?_; clear hK K) | refine walkL_nil ?_ | refine walkL_ret ?_ | refine walkL_exit ?_ | refine blockA_here ?_ | refine blockA_other rfl ?_ | refine blockA_ret ?_ | refine blockA_normal ?_ | refine thenA_ret ?_ | refine thenA_exit ?_ | refine thenA_normal ?_)
    refine walkL_cond rfl (fun hb => ?_) (fun hb => ?_)
    · have hlt : i < l.length := by simpa using hb
      have hw : IntKind.i64.wrap ((i : Int) + 1) = ((i + 1 : Nat) : Int) := by rw [wr_small (by omega)]; simp
      obtain ⟨b, hx⟩ : ∃ b, l[i]? = some b := ⟨_, List.getElem?_eq_getElem hlt⟩
      have g1 := boolRows_at hx
      have wr1 : IntKind.i64.wrap (run + 1) = run + 1 := wr_small (by omega)
      have wr2 : IntKind.i64.wrap ((i : Int) + 1 - n) = (i : Int) + 1 - n := wr_small (by omega)
      have hw' : IntKind.i64.wrap ((i : Int) + 1) = (i : Int) + 1 := by rw [hw]; omega
      rw [drop_get hx, beginsFrom] at hs
      cases b
      · have n0 : ¬ ((0 : Int) = n) := by omega
        have n1 : ((0 : Int) == n) = false := by simp; omega
        simp only [Bool.false_eq_true, if_false, if_neg n0] at hs
        repeat (first | refine walkL_true rfl ?_ | refine walkL_false rfl ?_ | refine walkL_seq ?_ | refine walkL_skip ?_ | refine walkL_block ?_ | (refine walkL_region fun K hK => ?_; simp (maxSteps := 4000000) only [go_sem, g1, wr1, n1, hw]; refine hK _ ?_; clear hK K) | refine walkL_nil ?_ | refine walkL_ret ?_ | refine walkL_exit ?_ | refine blockA_here ?_ | refine blockA_other rfl ?_ | refine blockA_ret ?_ | refine blockA_normal ?_ | refine thenA_ret ?_ | refine thenA_exit ?_ | refine thenA_normal ?_)
        refine ⟨rfl, (i + 1, 0), ?_, ⟨hlt, ⟨Int.le_refl _, by dsimp only; omega⟩, hs⟩, by dsimp only; omega⟩
        refine weak_of [] ?_ ?_ rfl rfl <;> simp [lessT, lessM, lessB, AV.less]
        all_goals first | done | rfl
      · simp only [if_true] at hs
        cases q : (run + 1 == n)
        · have n0 : ¬ (run + 1 = n) := by simpa using q
          rw [if_neg n0] at hs
          repeat (first | refine walkL_true rfl ?_ | refine walkL_false rfl ?_ | refine walkL_seq ?_ | refine walkL_skip ?_ | refine walkL_block ?_ | (refine walkL_region fun K hK => ?_; simp (maxSteps := 4000000) only [go_sem, g1, wr1, q, hw]; refine hK _ ?_; clear hK K) | refine walkL_nil ?_ | refine walkL_ret ?_ | refine walkL_exit ?_ | refine blockA_here ?_ | refine blockA_other rfl ?_ | refine blockA_ret ?_ | refine blockA_normal ?_ | refine thenA_ret ?_ | refine thenA_exit ?_ | refine thenA_normal ?_)
          refine ⟨rfl, (i + 1, run + 1), ?_, ⟨hlt, ⟨by dsimp only; omega, by dsimp only; omega⟩, hs⟩, by dsimp only; omega⟩
          refine weak_of [] ?_ ?_ rfl rfl <;> simp [lessT, lessM, lessB, AV.less]
          all_goals first | done | rfl
        · have n0 : run + 1 = n := by simpa using q
          rw [if_pos n0] at hs
          rw [hs]
          repeat (first | refine walkL_true rfl ?_ | refine walkL_false rfl ?_ | refine walkL_seq ?_ | refine walkL_skip ?_ | refine walkL_block ?_ | (refine walkL_region fun K hK => ?_; simp (maxSteps := 4000000) only [go_sem, g1, wr1, q, hw', wr2]; refine hK _ ?_; clear hK K) | refine walkL_nil ?_ | refine walkL_ret ?_ | refine walkL_exit ?_ | refine blockA_here ?_ | refine blockA_other rfl ?_ | refine blockA_ret ?_ | refine blockA_normal ?_ | refine thenA_ret ?_ | refine thenA_exit ?_ | refine thenA_normal ?_)
          simp (maxSteps := 4000000) only [go_sem]
    · have he : i = l.length := by (have : ¬ i < l.length := by simpa using hb); omega
      subst he
      rw [List.drop_length, beginsFrom] at hs
      rw [hs]
      repeat (first | refine walkL_seq ?_ | refine walkL_skip ?_ | refine walkL_block ?_ | (refine walkL_region fun K hK => ?_; simp (maxSteps := 4000000) only [go_sem]; refine hK _ ?_; clear hK K) | refine walkL_nil ?_ | refine walkL_ret ?_ | refine walkL_exit ?_ | refine blockA_here ?_ | refine blockA_other rfl ?_ | refine blockA_ret ?_ | refine blockA_normal ?_ | refine thenA_ret ?_ | refine thenA_exit ?_ | refine thenA_normal ?_)
      simp (maxSteps := 4000000) only [go_sem]
def addSpan (l : List Span) (i : Int) : List Span := match l.getLast? with
  | some s => if s.hi == i - 1 then l.dropLast ++ [⟨s.lo, i⟩] else l ++ [⟨i, i⟩]
  | none => [⟨i, i⟩]
def spansQ (q : Nat → Bool) : Nat → List Span
  | 0 => []
  | n + 1 => if q n then addSpan (spansQ q n) (n : Int) else spansQ q n
theorem spansQ_len (q : Nat → Bool) : ∀ n, (spansQ q n).length ≤ n
  | 0 => Nat.le_refl _
  | n + 1 => by
    have ih := spansQ_len q n
    rw [spansQ]
    split
    · unfold addSpan
      split
      · split
        · rename_i h _
          have : (spansQ q n) ≠ [] := fun hc => by rw [hc] at h; simp at h
          have := List.length_pos_iff.2 this
          simp
          omega
        · simp; omega
      · simp
    · omega
theorem last_split {α : Type} : ∀ (l : List α), l = [] ∨ ∃ a x, l = a ++ [x]
  | [] => .inl rfl
  | x :: l => .inr ⟨(x :: l).dropLast, (x :: l).getLast (by simp), (List.dropLast_concat_getLast (by simp)).symm⟩
theorem addSpan_app (A : List Span) (s : Span) (i : Int) : addSpan (A ++ [s]) i = if s.hi == i - 1 then A ++ [⟨s.lo, i⟩] else A ++ [s] ++ [⟨i, i⟩] := by
  unfold addSpan
  simp
theorem f49 (n : Nat) (g : Nat) (caps : List DV) (q : Nat → Bool) (hq : ∀ i, i < n → Fn Tryz.prog g (.i i :: caps) (.bool (q i))) (hn : n < 2 ^ 30) : FnS Tryz.prog 49 [.i n, .fn g caps] 48 2 (spanRows (spansQ q n)) := by
  refine fnS_walk 45 Tryz.call49 Tryz.func49 rfl (by decide) fun J => ?_
  simp (maxSteps := 4000000) only [go_sem, St.start, Tryz.ntmps49, Tryz.results49]
  repeat (first | refine walkL_seq ?_ | refine walkL_skip ?_ | refine walkL_block ?_ | (refine walkL_region fun K hK => ?_; simp (maxSteps := 4000000) only [go_sem]; refine hK _ ?_; clear hK K) | refine walkL_nil ?_ | refine walkL_ret ?_ | refine walkL_exit ?_ | refine blockA_here ?_ | refine blockA_other rfl ?_ | refine blockA_ret ?_ | refine blockA_normal ?_ | refine thenA_ret ?_ | refine thenA_exit ?_ | refine thenA_normal ?_)
  refine walkL_loopS (fun (i : Nat) => [(8, .d (.i i)), (4, .own 19), (5, .undef), (6, .undef), (20, .undef), (25, .undef)]) (fun i => [(19, some (.arr 48 2 (spanRows (spansQ q i))))]) (fun i => i ≤ n) (fun i => n - i) 0 ?_ (Nat.zero_le _) ?_
  · simp (maxSteps := 4000000) only [go_sem]
    refine weak_of [19] ?_ ?_ rfl rfl <;> simp [lessT, lessM, lessB, AV.less]
    all_goals first | done | rfl
  · intro i hi
    simp (maxSteps := 4000000) only [go_sem]
    repeat (first | refine walkL_seq ?_ | refine walkL_skip ?_ | refine walkL_block ?_ | (refine walkL_region fun K hK => ?_; simp (maxSteps := 4000000) only [go_sem]; refine hK _ ?_; clear hK K) | refine walkL_nil ?_ | refine walkL_ret ?_ | refine walkL_exit ?_ | refine blockA_here ?_ | refine blockA_other rfl ?_ | refine blockA_ret ?_ | refine blockA_normal ?_ | refine thenA_ret ?_ | refine thenA_exit ?_ | refine thenA_normal ?_)
    refine walkL_cond rfl (fun hb => ?_) (fun hb => ?_)
    · have hlt : i < n := by simpa using hb
      have hw : IntKind.i64.wrap ((i : Int) + 1) = ((i + 1 : Nat) : Int) := by rw [wr_small (by omega)]; simp
      have hq1 := hq i hlt
      have hlen := spansQ_len q i
      have e1 : spansQ q (i + 1) = if q i then addSpan (spansQ q i) (i : Int) else spansQ q i := rfl
      obtain ⟨L, hL⟩ : ∃ L, L = spansQ q i := ⟨_, rfl⟩
      rw [← hL] at e1 hlen ⊢
      have wi : IntKind.i64.wrap ((i : Int) - 1) = (i : Int) - 1 := wr_small (by omega)
      have hn1 : L.length + 1 ≤ 549755813888 := by omega
      rcases last_split L with hLe | ⟨A, s, hLe⟩
      · subst hLe
        have e0 : (([] : List Span).length : Int) = 0 := rfl
        have wl : IntKind.i64.wrap (0 - 1) = -1 := wr_small (by decide)
        repeat (first | refine walkL_seq ?_ | refine walkL_skip ?_ | refine walkL_block ?_ | (refine walkL_region fun K hK => ?_; simp (maxSteps := 4000000) only [go_sem, wl]; refine hK _ ?_; clear hK K) | refine walkL_nil ?_ | refine walkL_ret ?_ | refine walkL_exit ?_ | refine blockA_here ?_ | refine blockA_other rfl ?_ | refine blockA_ret ?_ | refine blockA_normal ?_ | refine thenA_ret ?_ | refine thenA_exit ?_ | refine thenA_normal ?_)
        refine walkL_region fun K hK => ?_
        simp (maxSteps := 4000000) only [go_sem]
        refine ⟨_, .lent (hf := hq1) (hd := reify_caps _ _ _ _ rfl) (hr := rfl), ?_⟩
        simp (maxSteps := 4000000) only [go_sem]
        refine hK _ ?_
        clear hK K
        cases qi : q i
        · rw [qi] at e1
          simp only [Bool.false_eq_true, if_false] at e1
          repeat (first | refine walkL_true rfl ?_ | refine walkL_false rfl ?_ | refine walkL_seq ?_ | refine walkL_skip ?_ | refine walkL_block ?_ | (refine walkL_region fun K hK => ?_; simp (maxSteps := 4000000) only [go_sem, hw]; refine hK _ ?_; clear hK K) | refine walkL_nil ?_ | refine walkL_ret ?_ | refine walkL_exit ?_ | refine blockA_here ?_ | refine blockA_other rfl ?_ | refine blockA_ret ?_ | refine blockA_normal ?_ | refine thenA_ret ?_ | refine thenA_exit ?_ | refine thenA_normal ?_)
          refine ⟨rfl, i + 1, ?_, hlt, by omega⟩
          rw [e1]
          refine weak_of [] ?_ ?_ rfl rfl <;> simp [lessT, lessM, lessB, AV.less]
          all_goals first | done | rfl
        · rw [qi] at e1
          simp only [if_true] at e1
          have d0 : decide ((-1 : Int) ≥ 0) = false := by decide
          have e2 : addSpan [] (i : Int) = [⟨i, i⟩] := rfl
          rw [e2] at e1
          have e3 : spanRows [] = [] := rfl
          repeat (first | refine walkL_true rfl ?_ | refine walkL_false rfl ?_ | refine walkL_seq ?_ | refine walkL_skip ?_ | refine walkL_block ?_ | (refine walkL_region fun K hK => ?_; simp (maxSteps := 4000000) only [go_sem, d0, hw, hn1, e3, List.nil_append]; refine hK _ ?_; clear hK K) | refine walkL_nil ?_ | refine walkL_ret ?_ | refine walkL_exit ?_ | refine blockA_here ?_ | refine blockA_other rfl ?_ | refine blockA_ret ?_ | refine blockA_normal ?_ | refine thenA_ret ?_ | refine thenA_exit ?_ | refine thenA_normal ?_)
          refine ⟨rfl, i + 1, ?_, hlt, by omega⟩
          rw [e1]
          refine weak_of [] ?_ ?_ rfl rfl <;> simp [lessT, lessM, lessB, AV.less]
          all_goals first | done | rfl
      · have hAl : L.length = A.length + 1 := by rw [hLe]; simp
        have wl : IntKind.i64.wrap ((L.length : Int) - 1) = (A.length : Int) := by rw [wr_small (by omega)]; omega
        have g1 : (spanRows L)[A.length]? = some s.row := spanRows_at (by rw [hLe]; simp)
        have hA1 : A.length < L.length := by omega
        have d0 : decide ((A.length : Int) ≥ 0) = true := by simp
        repeat (first | refine walkL_seq ?_ | refine walkL_skip ?_ | refine walkL_block ?_ | (refine walkL_region fun K hK => ?_; simp (maxSteps := 4000000) only [go_sem, wl]; refine hK _ ?_; clear hK K) | refine walkL_nil ?_ | refine walkL_ret ?_ | refine walkL_exit ?_ | refine blockA_here ?_ | refine blockA_other rfl ?_ | refine blockA_ret ?_ | refine blockA_normal ?_ | refine thenA_ret ?_ | refine thenA_exit ?_ | refine thenA_normal ?_)
        refine walkL_region fun K hK => ?_
        simp (maxSteps := 4000000) only [go_sem]
        refine ⟨_, .lent (hf := hq1) (hd := reify_caps _ _ _ _ rfl) (hr := rfl), ?_⟩
        simp (maxSteps := 4000000) only [go_sem]
        refine hK _ ?_
        clear hK K
        cases qi : q i
        · rw [qi] at e1
          simp only [Bool.false_eq_true, if_false] at e1
          repeat (first | refine walkL_true rfl ?_ | refine walkL_false rfl ?_ | refine walkL_seq ?_ | refine walkL_skip ?_ | refine walkL_block ?_ | (refine walkL_region fun K hK => ?_; simp (maxSteps := 4000000) only [go_sem, hw]; refine hK _ ?_; clear hK K) | refine walkL_nil ?_ | refine walkL_ret ?_ | refine walkL_exit ?_ | refine blockA_here ?_ | refine blockA_other rfl ?_ | refine blockA_ret ?_ | refine blockA_normal ?_ | refine thenA_ret ?_ | refine thenA_exit ?_ | refine thenA_normal ?_)
          refine ⟨rfl, i + 1, ?_, hlt, by omega⟩
          rw [e1]
          refine weak_of [] ?_ ?_ rfl rfl <;> simp [lessT, lessM, lessB, AV.less]
          all_goals first | done | rfl
        · rw [qi] at e1
          simp only [if_true] at e1
          rw [hLe, addSpan_app] at e1
          cases q3 : (s.hi == (i : Int) - 1)
          · rw [q3] at e1
            simp only [Bool.false_eq_true, if_false] at e1
            rw [← hLe] at e1
            repeat (first | refine walkL_true rfl ?_ | refine walkL_false rfl ?_ | refine walkL_seq ?_ | refine walkL_skip ?_ | refine walkL_block ?_ | (refine walkL_region fun K hK => ?_; simp (maxSteps := 4000000) only [go_sem, d0, g1, hA1, Span.row, wi, q3, hw, hn1]; refine hK _ ?_; clear hK K) | refine walkL_nil ?_ | refine walkL_ret ?_ | refine walkL_exit ?_ | refine blockA_here ?_ | refine blockA_other rfl ?_ | refine blockA_ret ?_ | refine blockA_normal ?_ | refine thenA_ret ?_ | refine thenA_exit ?_ | refine thenA_normal ?_)
            refine ⟨rfl, i + 1, ?_, hlt, by omega⟩
            rw [e1, spanRows_push]
            refine weak_of [] ?_ ?_ rfl rfl <;> simp [lessT, lessM, lessB, AV.less]
            all_goals first | done | rfl
          · rw [q3] at e1
            simp only [if_true] at e1
            have e4 : (spanRows L).set A.length [.i s.lo, .i (i : Int)] = spanRows (A ++ [⟨s.lo, i⟩]) := by rw [hLe]; simp [spanRows, Span.row]
            repeat (first | refine walkL_true rfl ?_ | refine walkL_false rfl ?_ | refine walkL_seq ?_ | refine walkL_skip ?_ | refine walkL_block ?_ | (refine walkL_region fun K hK => ?_; simp (maxSteps := 4000000) only [go_sem, d0, g1, hA1, Span.row, wi, q3, hw, hn1]; refine hK _ ?_; clear hK K) | refine walkL_nil ?_ | refine walkL_ret ?_ | refine walkL_exit ?_ | refine blockA_here ?_ | refine blockA_other rfl ?_ | refine blockA_ret ?_ | refine blockA_normal ?_ | refine thenA_ret ?_ | refine thenA_exit ?_ | refine thenA_normal ?_)
            refine ⟨rfl, i + 1, ?_, hlt, by omega⟩
            rw [e1, ← e4]
            refine weak_of [] ?_ ?_ rfl rfl <;> simp [lessT, lessM, lessB, AV.less]
            all_goals first | done | rfl
    · have he : i = n := by (have : ¬ i < n := by simpa using hb); omega
      subst he
      repeat (first | refine walkL_seq ?_ | refine walkL_skip ?_ | refine walkL_block ?_ | (refine walkL_region fun K hK => ?_; simp (maxSteps := 4000000) only [go_sem]; refine hK _ ?_; clear hK K) | refine walkL_nil ?_ | refine walkL_ret ?_ | refine walkL_exit ?_ | refine blockA_here ?_ | refine blockA_other rfl ?_ | refine blockA_ret ?_ | refine blockA_normal ?_ | refine thenA_ret ?_ | refine thenA_exit ?_ | refine thenA_normal ?_)
      simp (maxSteps := 4000000) only [go_sem]
end Go.Ab
namespace Go.Ab
open Go.RowKit Go.Proofs
set_option maxHeartbeats 4000000
set_option maxRecDepth 20000
attribute [local irreducible] WalkL Walk
theorem reify_caps2 (m : List (Option Blk)) (x y : AV) (d e : DV) (caps : List DV) (h : reify m deep x = some d) (k : reify m deep y = some e) : allSome ((x :: y :: caps.map AV.d).map (reify m deep)) = some (d :: e :: caps) := by
  have := reify_caps m y e caps k
  rw [List.map_cons, h]
  simp only [allSome, this, Option.map_some]
def outV (N : List Int) (S : List (List Hour)) (H : Nat) : DV := .ptr [.sl (intRows N), .sl (scenRows S), .i H] 0
theorem f146 (s : List Hour) (g : Nat) (caps : List DV) (b : Bool) (hq : Fn Tryz.prog g (.sl (hourRows s) :: caps) (.bool b)) : Fn Tryz.prog 146 [.sl (hourRows s), .ptr [.fn g caps] 0] (.bool (!b)) := by
  refine fn_walk 8 Tryz.call146 Tryz.func146 rfl (by decide) fun J => ?_
  simp (maxSteps := 4000000) only [go_sem, St.start, Tryz.ntmps146, Tryz.results146]
  repeat (first | refine walkL_seq ?_ | refine walkL_skip ?_ | refine walkL_block ?_ | (refine walkL_region fun K hK => ?_; simp (maxSteps := 4000000) only [go_sem]; refine hK _ ?_; clear hK K) | refine walkL_nil ?_ | refine walkL_ret ?_ | refine walkL_exit ?_ | refine blockA_here ?_ | refine blockA_other rfl ?_ | refine blockA_ret ?_ | refine blockA_normal ?_ | refine thenA_ret ?_ | refine thenA_exit ?_ | refine thenA_normal ?_)
  refine walkL_region fun K hK => ?_
  simp (maxSteps := 4000000) only [go_sem]
  refine ⟨_, .lent (hf := hq) (hd := reify_caps _ _ _ _ rfl) (hr := rfl), ?_⟩
  simp (maxSteps := 4000000) only [go_sem]
  refine hK _ ?_
  clear hK K
  repeat (first | refine walkL_seq ?_ | refine walkL_skip ?_ | refine walkL_block ?_ | (refine walkL_region fun K hK => ?_; simp (maxSteps := 4000000) only [go_sem]; refine hK _ ?_; clear hK K) | refine walkL_nil ?_ | refine walkL_ret ?_ | refine walkL_exit ?_ | refine blockA_here ?_ | refine blockA_other rfl ?_ | refine blockA_ret ?_ | refine blockA_normal ?_ | refine thenA_ret ?_ | refine thenA_exit ?_ | refine thenA_normal ?_)
  simp (maxSteps := 4000000) only [go_sem]
theorem f112 (xs : List (List Hour)) (g : Nat) (caps : List DV) (q : List Hour → Bool) (hq : ∀ s ∈ xs, Fn Tryz.prog g (.sl (hourRows s) :: caps) (.bool (q s))) (hl : xs.length < 2 ^ 62) : Fn Tryz.prog 112 [.sl (scenRows xs), .fn g caps] (.bool (xs.all q)) := by
  have h := f115 xs 146 [.ptr [.fn g caps] 0] (fun s => !q s) (fun s hs => f146 s g caps (q s) (hq s hs)) hl
  refine fn_walk 9 Tryz.call112 Tryz.func112 rfl (by decide) fun J => ?_
  simp (maxSteps := 4000000) only [go_sem, St.start, Tryz.ntmps112, Tryz.results112]
  repeat (first | refine walkL_seq ?_ | refine walkL_skip ?_ | refine walkL_block ?_ | (refine walkL_region fun K hK => ?_; simp (maxSteps := 4000000) only [go_sem]; (repeat (first | (refine ⟨_, .lent (hf := h) (hd := rfl) (hr := rfl), ?_⟩; simp (maxSteps := 4000000) only [go_sem]) | (refine ⟨_, .given (hf := h) (hd := rfl) (ha := rfl), ?_⟩; simp (maxSteps := 4000000) only [go_sem]))); refine hK _ ?_; clear hK K) | refine walkL_nil ?_ | refine walkL_ret ?_ | refine walkL_exit ?_ | refine blockA_here ?_ | refine blockA_other rfl ?_ | refine blockA_ret ?_ | refine blockA_normal ?_ | refine thenA_ret ?_ | refine thenA_exit ?_ | refine thenA_normal ?_)
  simp (maxSteps := 4000000) only [go_sem, any_not]
theorem f113 (l : List Hour) (h : Int) (g : Nat) (caps : List DV) (b : Bool) (hq : Fn Tryz.prog g (.sl (hourRows l) :: .i h :: caps) (.bool b)) : Fn Tryz.prog 113 [.sl (hourRows l), .ptr [.fn g caps] 0, .ptr [.i h] 0] (.bool b) := by
  refine fn_walk 9 Tryz.call113 Tryz.func113 rfl (by decide) fun J => ?_
  simp (maxSteps := 4000000) only [go_sem, St.start, Tryz.ntmps113, Tryz.results113]
  repeat (first | refine walkL_seq ?_ | refine walkL_skip ?_ | refine walkL_block ?_ | (refine walkL_region fun K hK => ?_; simp (maxSteps := 4000000) only [go_sem]; refine hK _ ?_; clear hK K) | refine walkL_nil ?_ | refine walkL_ret ?_ | refine walkL_exit ?_ | refine blockA_here ?_ | refine blockA_other rfl ?_ | refine blockA_ret ?_ | refine blockA_normal ?_ | refine thenA_ret ?_ | refine thenA_exit ?_ | refine thenA_normal ?_)
  refine walkL_region fun K hK => ?_
  simp (maxSteps := 4000000) only [go_sem]
  refine ⟨_, .lent (hf := hq) (hd := reify_caps2 _ _ _ _ _ _ rfl rfl) (hr := rfl), ?_⟩
  simp (maxSteps := 4000000) only [go_sem]
  refine hK _ ?_
  clear hK K
  repeat (first | refine walkL_seq ?_ | refine walkL_skip ?_ | refine walkL_block ?_ | (refine walkL_region fun K hK => ?_; simp (maxSteps := 4000000) only [go_sem]; refine hK _ ?_; clear hK K) | refine walkL_nil ?_ | refine walkL_ret ?_ | refine walkL_exit ?_ | refine blockA_here ?_ | refine blockA_other rfl ?_ | refine blockA_ret ?_ | refine blockA_normal ?_ | refine thenA_ret ?_ | refine thenA_exit ?_ | refine thenA_normal ?_)
  simp (maxSteps := 4000000) only [go_sem]
theorem f116 (l : List Hour) (h : Int) (g : Nat) (caps : List DV) (b : Bool) (hq : Fn Tryz.prog g (.sl (hourRows l) :: .i h :: caps) (.bool b)) : Fn Tryz.prog 116 [.sl (hourRows l), .ptr [.fn g caps] 0, .ptr [.i h] 0] (.bool b) := by
  refine fn_walk 9 Tryz.call116 Tryz.func116 rfl (by decide) fun J => ?_
  simp (maxSteps := 4000000) only [go_sem, St.start, Tryz.ntmps116, Tryz.results116]
  repeat (first | refine walkL_seq ?_ | refine walkL_skip ?_ | refine walkL_block ?_ | (refine walkL_region fun K hK => ?_; simp (maxSteps := 4000000) only [go_sem]; refine hK _ ?_; clear hK K) | refine walkL_nil ?_ | refine walkL_ret ?_ | refine walkL_exit ?_ | refine blockA_here ?_ | refine blockA_other rfl ?_ | refine blockA_ret ?_ | refine blockA_normal ?_ | refine thenA_ret ?_ | refine thenA_exit ?_ | refine thenA_normal ?_)
  refine walkL_region fun K hK => ?_
  simp (maxSteps := 4000000) only [go_sem]
  refine ⟨_, .lent (hf := hq) (hd := reify_caps2 _ _ _ _ _ _ rfl rfl) (hr := rfl), ?_⟩
  simp (maxSteps := 4000000) only [go_sem]
  refine hK _ ?_
  clear hK K
  repeat (first | refine walkL_seq ?_ | refine walkL_skip ?_ | refine walkL_block ?_ | (refine walkL_region fun K hK => ?_; simp (maxSteps := 4000000) only [go_sem]; refine hK _ ?_; clear hK K) | refine walkL_nil ?_ | refine walkL_ret ?_ | refine walkL_exit ?_ | refine blockA_here ?_ | refine blockA_other rfl ?_ | refine blockA_ret ?_ | refine blockA_normal ?_ | refine thenA_ret ?_ | refine thenA_exit ?_ | refine thenA_normal ?_)
  simp (maxSteps := 4000000) only [go_sem]
theorem f111 (N : List Int) (S : List (List Hour)) (H : Nat) (h : Int) (g : Nat) (caps : List DV) (q : List Hour → Bool) (hq : ∀ l ∈ S, Fn Tryz.prog g (.sl (hourRows l) :: .i h :: caps) (.bool (q l))) (hS : S.length < 2 ^ 30) :
    Fn Tryz.prog 111 [.i h, .ptr [outV N S H] 0, .ptr [.fn g caps] 0] (.bool (S.all q)) := by
  have h79 := f112 S 113 [.ptr [.fn g caps] 0, .ptr [.i h] 0] q (fun l hl => f113 l h g caps (q l) (hq l hl)) (by omega)
  refine fn_walk 11 Tryz.call111 Tryz.func111 rfl (by decide) fun J => ?_
  simp (maxSteps := 4000000) only [go_sem, St.start, Tryz.ntmps111, Tryz.results111, outV]
  repeat (first | refine walkL_seq ?_ | refine walkL_skip ?_ | refine walkL_block ?_ | (refine walkL_region fun K hK => ?_; simp (maxSteps := 4000000) only [go_sem]; (repeat (first | (refine ⟨_, .lent (hf := h79) (hd := rfl) (hr := rfl), ?_⟩; simp (maxSteps := 4000000) only [go_sem]) | (refine ⟨_, .given (hf := h79) (hd := rfl) (ha := rfl), ?_⟩; simp (maxSteps := 4000000) only [go_sem]))); refine hK _ ?_; clear hK K) | refine walkL_nil ?_ | refine walkL_ret ?_ | refine walkL_exit ?_ | refine blockA_here ?_ | refine blockA_other rfl ?_ | refine blockA_ret ?_ | refine blockA_normal ?_ | refine thenA_ret ?_ | refine thenA_exit ?_ | refine thenA_normal ?_)
  simp (maxSteps := 4000000) only [go_sem]
theorem f114 (N : List Int) (S : List (List Hour)) (H : Nat) (h : Int) (g : Nat) (caps : List DV) (q : List Hour → Bool) (hq : ∀ l ∈ S, Fn Tryz.prog g (.sl (hourRows l) :: .i h :: caps) (.bool (q l))) (hS : S.length < 2 ^ 30) :
    Fn Tryz.prog 114 [.i h, .ptr [outV N S H] 0, .ptr [.fn g caps] 0] (.bool (S.any q)) := by
  have h82 := f115 S 116 [.ptr [.fn g caps] 0, .ptr [.i h] 0] q (fun l hl => f116 l h g caps (q l) (hq l hl)) (by omega)
  refine fn_walk 11 Tryz.call114 Tryz.func114 rfl (by decide) fun J => ?_
  simp (maxSteps := 4000000) only [go_sem, St.start, Tryz.ntmps114, Tryz.results114, outV]
  repeat (first | refine walkL_seq ?_ | refine walkL_skip ?_ | refine walkL_block ?_ | (refine walkL_region fun K hK => ?_; simp (maxSteps := 4000000) only [go_sem]; (repeat (first | (refine ⟨_, .lent (hf := h82) (hd := rfl) (hr := rfl), ?_⟩; simp (maxSteps := 4000000) only [go_sem]) | (refine ⟨_, .given (hf := h82) (hd := rfl) (ha := rfl), ?_⟩; simp (maxSteps := 4000000) only [go_sem]))); refine hK _ ?_; clear hK K) | refine walkL_nil ?_ | refine walkL_ret ?_ | refine walkL_exit ?_ | refine blockA_here ?_ | refine blockA_other rfl ?_ | refine blockA_ret ?_ | refine blockA_normal ?_ | refine thenA_ret ?_ | refine thenA_exit ?_ | refine thenA_normal ?_)
  simp (maxSteps := 4000000) only [go_sem]
theorem f61 (N : List Int) (S : List (List Hour)) (H : Nat) (g : Nat) (caps : List DV) (q : List Hour → Nat → Bool) (hq : ∀ l ∈ S, ∀ i, i < H → Fn Tryz.prog g (.sl (hourRows l) :: .i i :: caps) (.bool (q l i))) (hS : S.length < 2 ^ 30) (hH : H < 2 ^ 30) :
    FnS Tryz.prog 61 [outV N S H, .fn g caps] 48 2 (spanRows (spansQ (fun i => S.all fun l => q l i) H)) := by
  have h68 := f49 H 111 [.ptr [outV N S H] 0, .ptr [.fn g caps] 0] (fun i => S.all fun l => q l i) (fun i hi => f111 N S H i g caps (fun l => q l i) (fun l hl => hq l hl i hi) hS) hH
  rw [outV] at h68
  refine fnS_walk 11 Tryz.call61 Tryz.func61 rfl (by decide) fun J => ?_
  simp (maxSteps := 4000000) only [go_sem, St.start, Tryz.ntmps61, Tryz.results61, outV]
  repeat (first | refine walkL_seq ?_ | refine walkL_skip ?_ | refine walkL_block ?_ | (refine walkL_region fun K hK => ?_; simp (maxSteps := 4000000) only [go_sem]; refine hK _ ?_; clear hK K) | refine walkL_nil ?_ | refine walkL_ret ?_ | refine walkL_exit ?_ | refine blockA_here ?_ | refine blockA_other rfl ?_ | refine blockA_ret ?_ | refine blockA_normal ?_ | refine thenA_ret ?_ | refine thenA_exit ?_ | refine thenA_normal ?_)
  refine walkL_region fun K hK => ?_
  simp (maxSteps := 4000000) only [go_sem]
  refine ⟨_, .lentS (hdst := rfl) (hf := h68) (hd := rfl) (hr := by first | exact rowsFlat_int _ | exact rowsFlat_hour _ | exact rowsFlat_sight _ | exact rowsFlat_sky _ | exact rowsFlat_span _ | exact rowsFlat_bool _) (hfr := rfl), ?_⟩
  simp (maxSteps := 4000000) only [go_sem]
  refine hK _ ?_
  clear hK K
  repeat (first | refine walkL_seq ?_ | refine walkL_skip ?_ | refine walkL_block ?_ | (refine walkL_region fun K hK => ?_; simp (maxSteps := 4000000) only [go_sem]; refine hK _ ?_; clear hK K) | refine walkL_nil ?_ | refine walkL_ret ?_ | refine walkL_exit ?_ | refine blockA_here ?_ | refine blockA_other rfl ?_ | refine blockA_ret ?_ | refine blockA_normal ?_ | refine thenA_ret ?_ | refine thenA_exit ?_ | refine thenA_normal ?_)
  simp (maxSteps := 4000000) only [go_sem]
theorem f64 (N : List Int) (S : List (List Hour)) (H : Nat) (g : Nat) (caps : List DV) (q : List Hour → Nat → Bool) (hq : ∀ l ∈ S, ∀ i, i < H → Fn Tryz.prog g (.sl (hourRows l) :: .i i :: caps) (.bool (q l i))) (hS : S.length < 2 ^ 30) (hH : H < 2 ^ 30) :
    FnS Tryz.prog 64 [outV N S H, .fn g caps] 48 2 (spanRows (spansQ (fun i => S.any fun l => q l i) H)) := by
  have h68 := f49 H 114 [.ptr [outV N S H] 0, .ptr [.fn g caps] 0] (fun i => S.any fun l => q l i) (fun i hi => f114 N S H i g caps (fun l => q l i) (fun l hl => hq l hl i hi) hS) hH
  rw [outV] at h68
  refine fnS_walk 11 Tryz.call64 Tryz.func64 rfl (by decide) fun J => ?_
  simp (maxSteps := 4000000) only [go_sem, St.start, Tryz.ntmps64, Tryz.results64, outV]
  repeat (first | refine walkL_seq ?_ | refine walkL_skip ?_ | refine walkL_block ?_ | (refine walkL_region fun K hK => ?_; simp (maxSteps := 4000000) only [go_sem]; refine hK _ ?_; clear hK K) | refine walkL_nil ?_ | refine walkL_ret ?_ | refine walkL_exit ?_ | refine blockA_here ?_ | refine blockA_other rfl ?_ | refine blockA_ret ?_ | refine blockA_normal ?_ | refine thenA_ret ?_ | refine thenA_exit ?_ | refine thenA_normal ?_)
  refine walkL_region fun K hK => ?_
  simp (maxSteps := 4000000) only [go_sem]
  refine ⟨_, .lentS (hdst := rfl) (hf := h68) (hd := rfl) (hr := by first | exact rowsFlat_int _ | exact rowsFlat_hour _ | exact rowsFlat_sight _ | exact rowsFlat_sky _ | exact rowsFlat_span _ | exact rowsFlat_bool _) (hfr := rfl), ?_⟩
  simp (maxSteps := 4000000) only [go_sem]
  refine hK _ ?_
  clear hK K
  repeat (first | refine walkL_seq ?_ | refine walkL_skip ?_ | refine walkL_block ?_ | (refine walkL_region fun K hK => ?_; simp (maxSteps := 4000000) only [go_sem]; refine hK _ ?_; clear hK K) | refine walkL_nil ?_ | refine walkL_ret ?_ | refine walkL_exit ?_ | refine blockA_here ?_ | refine blockA_other rfl ?_ | refine blockA_ret ?_ | refine blockA_normal ?_ | refine thenA_ret ?_ | refine thenA_exit ?_ | refine thenA_normal ?_)
  simp (maxSteps := 4000000) only [go_sem]
theorem look_all {F : List (List Hour)} {seen : List Sight} {err : Int} {told : Bool} (h : lookF F seen err told = 0) : ForeGood F ∧ sightsB (hd0 F).length seen = true ∧ possL F seen ≠ [] ∧ err = 0 ∧ told = true := by
  unfold lookF at h
  cases hb : badF F
  · cases hq : sightsB (hd0 F).length seen
    · rw [hb, hq] at h; simp at h
    · rw [hb, hq] at h
      simp only [Bool.false_eq_true, if_false, if_true] at h
      by_cases he : err = 0
      · rw [if_pos he] at h
        cases told
        · simp at h
        · simp only [if_true] at h
          refine ⟨fore_iff.1 hb, rfl, ?_, he, rfl⟩
          intro hc
          rw [hc] at h
          simp at h
      · rw [if_neg he] at h
        exact absurd h he
  · rw [hb] at h; simp at h
theorem scens_all {F : List (List Hour)} {seen : List Sight} (hg : ForeGood F) : ∀ s ∈ scensOf (possL F seen), s.length = (hd0 F).length := fun s hs => by
  obtain ⟨x, hx, rfl⟩ := List.mem_map.1 hs
  obtain ⟨k, hk⟩ := List.getElem?_of_mem hx
  obtain ⟨l0, _, hl0, e1, _⟩ := poss_get F 0 k x.1 x.2 hk
  rw [e1, seenHours_len, hg.len l0 (List.mem_of_getElem? hl0)]
theorem scens_short {F : List (List Hour)} {seen : List Sight} : (scensOf (possL F seen)).length ≤ F.length := by rw [scensOf, List.length_map]; exact possFrom_len _ _ _
theorem lookV_out (F : List (List Hour)) (seen : List Sight) : lookV F seen = outV (numsOf (possL F seen)) (scensOf (possL F seen)) (hd0 F).length := rfl
def keepsF (F : List (List Hour)) (seen : List Sight) (l : Limits) : List Span × List Span × Int :=
  if lookF F seen (limE l) true = 0 then (spansQ (fun i => (scensOf (possL F seen)).all fun s => alwaysB l (hourAt s (i : Int))) (hd0 F).length, spansQ (fun i => (scensOf (possL F seen)).any fun s => everB l (hourAt s (i : Int))) (hd0 F).length, 0) else ([], [], lookF F seen (limE l) true)
theorem f22 (F : List (List Hour)) (seen : List Sight) (l : Limits) (hs : ForeSmall F) (hsl : seen.length < 2 ^ 30) :
    Fn Tryz.prog 22 [.agg [.sl (scenRows F)], .sl (sightRows seen), .agg l.row] (.tup [.sl (spanRows (keepsF F seen l).1), .sl (spanRows (keepsF F seen l).2.1), .i (keepsF F seen l).2.2]) := by
  have h40 := f60 l
  have h39 := f59 F seen (limE l) true hs hsl
  obtain ⟨le, hle⟩ : ∃ e, e = limE l := ⟨_, rfl⟩
  obtain ⟨e, he⟩ : ∃ e, e = lookF F seen (limE l) true := ⟨_, rfl⟩
  unfold keepsF
  rw [← he] at h39 ⊢
  rw [← hle] at h39 h40
  by_cases h0 : e = 0
  · rw [if_pos h0, lookV_out] at h39
    rw [if_pos h0]
    have hz : (e != 0) = false := by simp [h0]
    rw [h0] at he
    obtain ⟨hg, hsi, hne, _, _⟩ := look_all he.symm
    have hall := scens_all (seen := seen) hg
    have hSl := scens_short (F := F) (seen := seen)
    have hH := hg.hours
    have hF := hg.scen
    obtain ⟨N, hN⟩ : ∃ N, N = numsOf (possL F seen) := ⟨_, rfl⟩
    obtain ⟨S, hS⟩ : ∃ S, S = scensOf (possL F seen) := ⟨_, rfl⟩
    obtain ⟨H, hHe⟩ : ∃ H, H = (hd0 F).length := ⟨_, rfl⟩
    rw [← hN, ← hS, ← hHe] at h39
    rw [← hS] at hall hSl
    rw [← hHe] at hall hH
    have h41 := f61 N S H 62 [.ptr l.row 0] (fun s i => alwaysB l (hourAt s (i : Int))) (fun s hs i hi => f62 l s i _ (hourAt_get (i := (i : Int)) ⟨by omega, by rw [hall s hs]; omega⟩)) (by omega) (by omega)
    have h44 := f64 N S H 65 [.ptr l.row 0] (fun s i => everB l (hourAt s (i : Int))) (fun s hs i hi => f65 l s i _ (hourAt_get (i := (i : Int)) ⟨by omega, by rw [hall s hs]; omega⟩)) (by omega) (by omega)
    rw [← hS, ← hHe]
    obtain ⟨A, hA⟩ : ∃ A, A = spansQ (fun i => S.all fun s => alwaysB l (hourAt s (i : Int))) H := ⟨_, rfl⟩
    obtain ⟨B, hB⟩ : ∃ B, B = spansQ (fun i => S.any fun s => everB l (hourAt s (i : Int))) H := ⟨_, rfl⟩
    rw [← hA] at h41
    rw [← hB] at h44
    rw [← hA, ← hB]
    rw [outV] at h39 h41 h44
    rw [Limits.row] at h40 h41 h44
    refine fn_walk 31 Tryz.call22 Tryz.func22 rfl (by decide) fun J => ?_
    simp (maxSteps := 4000000) only [go_sem, St.start, Tryz.ntmps22, Tryz.results22, Limits.row]
    repeat (first | refine walkL_seq ?_ | refine walkL_skip ?_ | refine walkL_block ?_ | (refine walkL_region fun K hK => ?_; simp (maxSteps := 4000000) only [go_sem]; refine hK _ ?_; clear hK K) | refine walkL_nil ?_ | refine walkL_ret ?_ | refine walkL_exit ?_ | refine blockA_here ?_ | refine blockA_other rfl ?_ | refine blockA_ret ?_ | refine blockA_normal ?_ | refine thenA_ret ?_ | refine thenA_exit ?_ | refine thenA_normal ?_)
    refine walkL_drawn (by kernel_rfl) (by kernel_rfl) fun K hK => ?_
    simp (maxSteps := 4000000) only [go_sem]
    refine ⟨_, .fn (hf := h40) (hd := rfl) (hr := .inr rfl), ?_⟩
    simp (maxSteps := 4000000) only [go_sem]
    refine ⟨_, .fn (hf := h39) (hd := rfl) (hr := .inr rfl), ?_⟩
    simp (maxSteps := 4000000) only [go_sem]
    refine ⟨by kernel_rfl, hK _ ?_⟩
    clear hK K
    repeat (first | refine walkL_true rfl ?_ | refine walkL_false rfl ?_ | refine walkL_seq ?_ | refine walkL_skip ?_ | refine walkL_block ?_ | (refine walkL_region fun K hK => ?_; simp (maxSteps := 4000000) only [go_sem, hz]; refine hK _ ?_; clear hK K) | refine walkL_nil ?_ | refine walkL_ret ?_ | refine walkL_exit ?_ | refine blockA_here ?_ | refine blockA_other rfl ?_ | refine blockA_ret ?_ | refine blockA_normal ?_ | refine thenA_ret ?_ | refine thenA_exit ?_ | refine thenA_normal ?_)
    refine walkL_region fun K hK => ?_
    simp (maxSteps := 4000000) only [go_sem]
    refine ⟨_, .lentS (hdst := rfl) (hf := h41) (hd := rfl) (hr := by first | exact rowsFlat_int _ | exact rowsFlat_hour _ | exact rowsFlat_sight _ | exact rowsFlat_sky _ | exact rowsFlat_span _ | exact rowsFlat_bool _) (hfr := rfl), ?_⟩
    simp (maxSteps := 4000000) only [go_sem]
    refine ⟨_, .lentS (hdst := rfl) (hf := h44) (hd := rfl) (hr := by first | exact rowsFlat_int _ | exact rowsFlat_hour _ | exact rowsFlat_sight _ | exact rowsFlat_sky _ | exact rowsFlat_span _ | exact rowsFlat_bool _) (hfr := rfl), ?_⟩
    simp (maxSteps := 4000000) only [go_sem]
    refine hK _ ?_
    clear hK K
    repeat (first | refine walkL_seq ?_ | refine walkL_skip ?_ | refine walkL_block ?_ | (refine walkL_region fun K hK => ?_; simp (maxSteps := 4000000) only [go_sem]; refine hK _ ?_; clear hK K) | refine walkL_nil ?_ | refine walkL_ret ?_ | refine walkL_exit ?_ | refine blockA_here ?_ | refine blockA_other rfl ?_ | refine blockA_ret ?_ | refine blockA_normal ?_ | refine thenA_ret ?_ | refine thenA_exit ?_ | refine thenA_normal ?_)
    simp (maxSteps := 4000000) only [go_sem]
  · rw [if_neg h0] at h39
    rw [if_neg h0]
    have hz : (e != 0) = true := by simpa using h0
    rw [Limits.row] at h40
    have e3 : spanRows [] = [] := rfl
    refine fn_walk 31 Tryz.call22 Tryz.func22 rfl (by decide) fun J => ?_
    simp (maxSteps := 4000000) only [go_sem, St.start, Tryz.ntmps22, Tryz.results22, Limits.row]
    repeat (first | refine walkL_seq ?_ | refine walkL_skip ?_ | refine walkL_block ?_ | (refine walkL_region fun K hK => ?_; simp (maxSteps := 4000000) only [go_sem]; refine hK _ ?_; clear hK K) | refine walkL_nil ?_ | refine walkL_ret ?_ | refine walkL_exit ?_ | refine blockA_here ?_ | refine blockA_other rfl ?_ | refine blockA_ret ?_ | refine blockA_normal ?_ | refine thenA_ret ?_ | refine thenA_exit ?_ | refine thenA_normal ?_)
    refine walkL_drawn (by kernel_rfl) (by kernel_rfl) fun K hK => ?_
    simp (maxSteps := 4000000) only [go_sem]
    refine ⟨_, .fn (hf := h40) (hd := rfl) (hr := .inr rfl), ?_⟩
    simp (maxSteps := 4000000) only [go_sem]
    refine ⟨_, .fn (hf := h39) (hd := rfl) (hr := .inr rfl), ?_⟩
    simp (maxSteps := 4000000) only [go_sem]
    refine ⟨by kernel_rfl, hK _ ?_⟩
    clear hK K
    repeat (first | refine walkL_true rfl ?_ | refine walkL_false rfl ?_ | refine walkL_seq ?_ | refine walkL_skip ?_ | refine walkL_block ?_ | (refine walkL_region fun K hK => ?_; simp (maxSteps := 4000000) only [go_sem, hz]; refine hK _ ?_; clear hK K) | refine walkL_nil ?_ | refine walkL_ret ?_ | refine walkL_exit ?_ | refine blockA_here ?_ | refine blockA_other rfl ?_ | refine blockA_ret ?_ | refine blockA_normal ?_ | refine thenA_ret ?_ | refine thenA_exit ?_ | refine thenA_normal ?_)
    simp (maxSteps := 4000000) only [go_sem, e3]
    try rfl
end Go.Ab
namespace Go.Ab
open Go.RowKit Go.Proofs
set_option maxHeartbeats 8000000
set_option maxRecDepth 20000
attribute [local irreducible] WalkL Walk
theorem f69 (F : List (List Hour)) (seen : List Sight) (l : Limits) (n : Int) (hs : ForeSmall F) (hsl : seen.length < 2 ^ 30) :
    Fn Tryz.prog 69 [.agg [.sl (scenRows F)], .sl (sightRows seen), .agg l.row, .i n]
      (.tup [if lookF F seen (limE l) (withinB n 1 48) = 0 then lookV F seen else .nilptr, .i (lookF F seen (limE l) (withinB n 1 48))]) := by
  have h40 := f60 l
  have h52 := f87 n 1 48
  have h39 := f59 F seen (limE l) (withinB n 1 48) hs hsl
  obtain ⟨le, hle⟩ : ∃ e, e = limE l := ⟨_, rfl⟩
  obtain ⟨w, hw⟩ : ∃ e, e = withinB n 1 48 := ⟨_, rfl⟩
  rw [← hle, ← hw] at h39 ⊢
  rw [← hle] at h40
  rw [← hw] at h52
  obtain ⟨e, he⟩ : ∃ e, e = lookF F seen le w := ⟨_, rfl⟩
  rw [← he] at h39 ⊢
  rw [Limits.row] at h40
  by_cases h0 : e = 0
  · rw [if_pos h0, lookV] at h39
    rw [if_pos h0, lookV]
    refine fn_walk 20 Tryz.call69 Tryz.func69 rfl (by decide) fun J => ?_
    simp (maxSteps := 4000000) only [go_sem, St.start, Tryz.ntmps69, Tryz.results69, Limits.row]
    repeat (first | refine walkL_seq ?_ | refine walkL_skip ?_ | refine walkL_block ?_ | (refine walkL_region fun K hK => ?_; simp (maxSteps := 4000000) only [go_sem]; refine hK _ ?_; clear hK K) | refine walkL_nil ?_ | refine walkL_ret ?_ | refine walkL_exit ?_ | refine blockA_here ?_ | refine blockA_other rfl ?_ | refine blockA_ret ?_ | refine blockA_normal ?_ | refine thenA_ret ?_ | refine thenA_exit ?_ | refine thenA_normal ?_)
    refine walkL_drawn (by kernel_rfl) (by kernel_rfl) fun K hK => ?_
    simp (maxSteps := 4000000) only [go_sem]
    refine ⟨_, .fn (hf := h40) (hd := rfl) (hr := .inr rfl), ?_⟩
    simp (maxSteps := 4000000) only [go_sem]
    refine ⟨_, .fn (hf := h52) (hd := rfl) (hr := .inr rfl), ?_⟩
    simp (maxSteps := 4000000) only [go_sem]
    refine ⟨_, .fn (hf := h39) (hd := rfl) (hr := .inr rfl), ?_⟩
    simp (maxSteps := 4000000) only [go_sem]
    refine ⟨by kernel_rfl, hK _ ?_⟩
    clear hK K
    repeat (first | refine walkL_seq ?_ | refine walkL_skip ?_ | refine walkL_block ?_ | (refine walkL_region fun K hK => ?_; simp (maxSteps := 4000000) only [go_sem]; refine hK _ ?_; clear hK K) | refine walkL_nil ?_ | refine walkL_ret ?_ | refine walkL_exit ?_ | refine blockA_here ?_ | refine blockA_other rfl ?_ | refine blockA_ret ?_ | refine blockA_normal ?_ | refine thenA_ret ?_ | refine thenA_exit ?_ | refine thenA_normal ?_)
    simp (maxSteps := 4000000) only [go_sem]
  · rw [if_neg h0] at h39
    rw [if_neg h0]
    refine fn_walk 20 Tryz.call69 Tryz.func69 rfl (by decide) fun J => ?_
    simp (maxSteps := 4000000) only [go_sem, St.start, Tryz.ntmps69, Tryz.results69, Limits.row]
    repeat (first | refine walkL_seq ?_ | refine walkL_skip ?_ | refine walkL_block ?_ | (refine walkL_region fun K hK => ?_; simp (maxSteps := 4000000) only [go_sem]; refine hK _ ?_; clear hK K) | refine walkL_nil ?_ | refine walkL_ret ?_ | refine walkL_exit ?_ | refine blockA_here ?_ | refine blockA_other rfl ?_ | refine blockA_ret ?_ | refine blockA_normal ?_ | refine thenA_ret ?_ | refine thenA_exit ?_ | refine thenA_normal ?_)
    refine walkL_drawn (by kernel_rfl) (by kernel_rfl) fun K hK => ?_
    simp (maxSteps := 4000000) only [go_sem]
    refine ⟨_, .fn (hf := h40) (hd := rfl) (hr := .inr rfl), ?_⟩
    simp (maxSteps := 4000000) only [go_sem]
    refine ⟨_, .fn (hf := h52) (hd := rfl) (hr := .inr rfl), ?_⟩
    simp (maxSteps := 4000000) only [go_sem]
    refine ⟨_, .fn (hf := h39) (hd := rfl) (hr := .inr rfl), ?_⟩
    simp (maxSteps := 4000000) only [go_sem]
    refine ⟨by kernel_rfl, hK _ ?_⟩
    clear hK K
    repeat (first | refine walkL_seq ?_ | refine walkL_skip ?_ | refine walkL_block ?_ | (refine walkL_region fun K hK => ?_; simp (maxSteps := 4000000) only [go_sem]; refine hK _ ?_; clear hK K) | refine walkL_nil ?_ | refine walkL_ret ?_ | refine walkL_exit ?_ | refine blockA_here ?_ | refine blockA_other rfl ?_ | refine blockA_ret ?_ | refine blockA_normal ?_ | refine thenA_ret ?_ | refine thenA_exit ?_ | refine thenA_normal ?_)
    simp (maxSteps := 4000000) only [go_sem]
def winFirst (l : Limits) (n : Int) (S : List (List Hour)) (H : Int) : Int := S.foldl (fun f s => if decide (beginsF (s.map (everB l)) n ≥ 0) then min f (beginsF (s.map (everB l)) n) else f) H
def winLast (l : Limits) (n : Int) (S : List (List Hour)) : Int := S.foldl (fun a s => max a (beginsF (s.map (alwaysB l)) n)) (-1)
def winNever (l : Limits) (n : Int) (S : List (List Hour)) : Bool := S.any fun s => decide (beginsF (s.map (alwaysB l)) n < 0)
def windowF (F : List (List Hour)) (seen : List Sight) (l : Limits) (n : Int) : Int × Int × Int :=
  if lookF F seen (limE l) (withinB n 1 48) = 0 then
    (if winFirst l n (scensOf (possL F seen)) (hd0 F).length = (hd0 F).length then -1 else winFirst l n (scensOf (possL F seen)) (hd0 F).length, if winNever l n (scensOf (possL F seen)) then -1 else winLast l n (scensOf (possL F seen)), 0)
  else (0, 0, lookF F seen (limE l) (withinB n 1 48))
theorem f24 (F : List (List Hour)) (seen : List Sight) (l : Limits) (n : Int) (hs : ForeSmall F) (hsl : seen.length < 2 ^ 30) :
    Fn Tryz.prog 24 [.agg [.sl (scenRows F)], .sl (sightRows seen), .agg l.row, .i n] (.tup [.i (windowF F seen l n).1, .i (windowF F seen l n).2.1, .i (windowF F seen l n).2.2]) := by
  have h47 := f69 F seen l n hs hsl
  obtain ⟨e, he⟩ : ∃ e, e = lookF F seen (limE l) (withinB n 1 48) := ⟨_, rfl⟩
  unfold windowF
  rw [← he] at h47 ⊢
  by_cases h0 : e = 0
  · rw [if_pos h0, lookV] at h47
    rw [if_pos h0]
    have hz : (e != 0) = false := by simp [h0]
    rw [h0] at he
    obtain ⟨hg, hsi, hne, _, hn⟩ := look_all he.symm
    have hn := within_iff.1 hn
    have hall := scens_all (seen := seen) hg
    have hSl := scens_short (F := F) (seen := seen)
    have hH := hg.hours
    have hF := hg.scen
    obtain ⟨N, hN⟩ : ∃ N, N = numsOf (possL F seen) := ⟨_, rfl⟩
    obtain ⟨S, hS⟩ : ∃ S, S = scensOf (possL F seen) := ⟨_, rfl⟩
    obtain ⟨H, hHe⟩ : ∃ H, H = (hd0 F).length := ⟨_, rfl⟩
    rw [← hN, ← hS, ← hHe] at h47
    rw [← hS, ← hHe]
    rw [← hS] at hall hSl
    rw [← hHe] at hall hH
    rw [Limits.row] at h47
    obtain ⟨A, hA⟩ : ∃ A, A = winFirst l n S H := ⟨_, rfl⟩
    obtain ⟨B, hB⟩ : ∃ B, B = winLast l n S := ⟨_, rfl⟩
    obtain ⟨C, hC⟩ : ∃ C, C = winNever l n S := ⟨_, rfl⟩
    rw [← hA, ← hB, ← hC]
    refine fn_walk 79 Tryz.call24 Tryz.func24 rfl (by decide) fun J => ?_
    simp (maxSteps := 4000000) only [go_sem, St.start, Tryz.ntmps24, Tryz.results24, Limits.row]
    repeat (first | refine walkL_true rfl ?_ | refine walkL_false rfl ?_ | refine walkL_seq ?_ | refine walkL_skip ?_ | refine walkL_block ?_ | (refine walkL_region fun K hK => ?_; simp (maxSteps := 4000000) only [go_sem, hz]; (repeat (first | (refine ⟨_, .lent (hf := h47) (hd := rfl) (hr := rfl), ?_⟩; simp (maxSteps := 4000000) only [go_sem, hz]) | (refine ⟨_, .given (hf := h47) (hd := rfl) (ha := rfl), ?_⟩; simp (maxSteps := 4000000) only [go_sem, hz]))); refine hK _ ?_; clear hK K) | refine walkL_nil ?_ | refine walkL_ret ?_ | refine walkL_exit ?_ | refine blockA_here ?_ | refine blockA_other rfl ?_ | refine blockA_ret ?_ | refine blockA_normal ?_ | refine thenA_ret ?_ | refine thenA_exit ?_ | refine thenA_normal ?_)
    refine walkL_loopS (fun (i : Nat) => [(40, .d (.i i)), (8, .d (.i (winFirst l n (S.take i) H))), (9, .d (.i (winLast l n (S.take i)))), (13, .d (.bool (winNever l n (S.take i))))]) (fun _ => []) (fun i => i ≤ S.length) (fun i => S.length - i) 0 ?_ (Nat.zero_le _) ?_
    · simp (maxSteps := 4000000) only [go_sem]
      refine weak_of [] ?_ ?_ rfl rfl <;> simp [lessT, lessM, lessB, AV.less]
      all_goals first | done | rfl | exact ⟨rfl, rfl⟩ | exact ⟨rfl, rfl, rfl⟩
    · intro i hi
      obtain ⟨a, ha⟩ : ∃ a, a = winFirst l n (S.take i) H := ⟨_, rfl⟩
      obtain ⟨b, hb0⟩ : ∃ b, b = winLast l n (S.take i) := ⟨_, rfl⟩
      obtain ⟨c, hc0⟩ : ∃ c, c = winNever l n (S.take i) := ⟨_, rfl⟩
      rw [← ha, ← hb0, ← hc0]
      simp (maxSteps := 4000000) only [go_sem]
      repeat (first | refine walkL_seq ?_ | refine walkL_skip ?_ | refine walkL_block ?_ | (refine walkL_region fun K hK => ?_; simp (maxSteps := 4000000) only [go_sem]; refine hK _ ?_; clear hK K) | refine walkL_nil ?_ | refine walkL_ret ?_ | refine walkL_exit ?_ | refine blockA_here ?_ | refine blockA_other rfl ?_ | refine blockA_ret ?_ | refine blockA_normal ?_ | refine thenA_ret ?_ | refine thenA_exit ?_ | refine thenA_normal ?_)
      refine walkL_cond rfl (fun hb => ?_) (fun hb => ?_)
      · have hlt : i < S.length := by simpa using hb
        have hw : IntKind.i64.wrap ((i : Int) + 1) = ((i + 1 : Nat) : Int) := by rw [wr_small (by omega)]; simp
        obtain ⟨s, hx⟩ : ∃ s, S[i]? = some s := ⟨_, List.getElem?_eq_getElem hlt⟩
        have g1 := scenRows_at hx
        have hsH := hall s (List.mem_of_getElem? hx)
        have c1 := f71 s 66 (.agg l.row) (everB l) (fun h _ => f66 l h) (by omega)
        have c2 := f71 s 63 (.agg l.row) (alwaysB l) (fun h _ => f63 l h) (by omega)
        have c3 := f70 (s.map (everB l)) n ⟨by omega, by omega⟩ (by simp; omega)
        have c4 := f70 (s.map (alwaysB l)) n ⟨by omega, by omega⟩ (by simp; omega)
        have n1 : winFirst l n (S.take (i + 1)) H = if decide (beginsF (s.map (everB l)) n ≥ 0) then min a (beginsF (s.map (everB l)) n) else a := by rw [ha]; exact foldl_take_succ _ _ _ _ _ hx
        have n2 : winLast l n (S.take (i + 1)) = max b (beginsF (s.map (alwaysB l)) n) := by rw [hb0]; exact foldl_take_succ _ _ _ _ _ hx
        have n3 : winNever l n (S.take (i + 1)) = (c || decide (beginsF (s.map (alwaysB l)) n < 0)) := by
          rw [hc0]; unfold winNever; rw [List.take_add_one, hx]; simp
        obtain ⟨x, hx1⟩ : ∃ x, x = beginsF (s.map (everB l)) n := ⟨_, rfl⟩
        obtain ⟨y, hy1⟩ : ∃ y, y = beginsF (s.map (alwaysB l)) n := ⟨_, rfl⟩
        rw [← hx1] at c3 n1
        rw [← hy1] at c4 n2 n3
        rw [Limits.row] at c1 c2
        cases qx : decide (x ≥ 0) <;> cases c
        all_goals
          rw [qx] at n1
          simp only [Bool.false_eq_true, if_false, if_true, Bool.false_or, Bool.true_or] at n1 n3
          repeat (first | refine walkL_true rfl ?_ | refine walkL_false rfl ?_ | refine walkL_seq ?_ | refine walkL_skip ?_ | refine walkL_block ?_ | (refine walkL_region fun K hK => ?_; simp (maxSteps := 4000000) only [go_sem, g1, qx, hw]; (repeat (first | (refine ⟨_, .lent (hf := c1) (hd := rfl) (hr := rfl), ?_⟩; simp (maxSteps := 4000000) only [go_sem, g1, qx, hw]) | (refine ⟨_, .lent (hf := c3) (hd := rfl) (hr := rfl), ?_⟩; simp (maxSteps := 4000000) only [go_sem, g1, qx, hw]) | (refine ⟨_, .lent (hf := c2) (hd := rfl) (hr := rfl), ?_⟩; simp (maxSteps := 4000000) only [go_sem, g1, qx, hw]) | (refine ⟨_, .lent (hf := c4) (hd := rfl) (hr := rfl), ?_⟩; simp (maxSteps := 4000000) only [go_sem, g1, qx, hw]) | (refine ⟨_, .given (hf := c1) (hd := rfl) (ha := rfl), ?_⟩; simp (maxSteps := 4000000) only [go_sem, g1, qx, hw]) | (refine ⟨_, .given (hf := c3) (hd := rfl) (ha := rfl), ?_⟩; simp (maxSteps := 4000000) only [go_sem, g1, qx, hw]) | (refine ⟨_, .given (hf := c2) (hd := rfl) (ha := rfl), ?_⟩; simp (maxSteps := 4000000) only [go_sem, g1, qx, hw]) | (refine ⟨_, .given (hf := c4) (hd := rfl) (ha := rfl), ?_⟩; simp (maxSteps := 4000000) only [go_sem, g1, qx, hw]))); refine hK _ ?_; clear hK K) | refine walkL_nil ?_ | refine walkL_ret ?_ | refine walkL_exit ?_ | refine blockA_here ?_ | refine blockA_other rfl ?_ | refine blockA_ret ?_ | refine blockA_normal ?_ | refine thenA_ret ?_ | refine thenA_exit ?_ | refine thenA_normal ?_)
          refine ⟨rfl, i + 1, ?_, hlt, by omega⟩
          rw [n1, n2, n3]
          refine weak_of [] ?_ ?_ rfl rfl <;> simp [lessT, lessM, lessB, AV.less]
          all_goals first | done | rfl | exact ⟨rfl, rfl⟩ | exact ⟨rfl, rfl, rfl⟩
      · have he : i = S.length := by (have : ¬ i < S.length := by simpa using hb); omega
        subst he
        rw [List.take_length, ← hA] at ha
        rw [List.take_length, ← hB] at hb0
        rw [List.take_length, ← hC] at hc0
        subst ha hb0 hc0
        cases qa : (a == (H : Int)) <;> cases c
        all_goals
          have qa' : (a = (H : Int)) = ((a == (H : Int)) = true) := by simp
          repeat (first | refine walkL_true rfl ?_ | refine walkL_false rfl ?_ | refine walkL_seq ?_ | refine walkL_skip ?_ | refine walkL_block ?_ | (refine walkL_region fun K hK => ?_; simp (maxSteps := 4000000) only [go_sem, qa]; refine hK _ ?_; clear hK K) | refine walkL_nil ?_ | refine walkL_ret ?_ | refine walkL_exit ?_ | refine blockA_here ?_ | refine blockA_other rfl ?_ | refine blockA_ret ?_ | refine blockA_normal ?_ | refine thenA_ret ?_ | refine thenA_exit ?_ | refine thenA_normal ?_)
          simp (maxSteps := 4000000) only [go_sem, qa', qa, h0, Bool.false_eq_true, if_false, if_true]
  · rw [if_neg h0] at h47
    rw [if_neg h0]
    have hz : (e != 0) = true := by simpa using h0
    rw [Limits.row] at h47
    refine fn_walk 79 Tryz.call24 Tryz.func24 rfl (by decide) fun J => ?_
    simp (maxSteps := 4000000) only [go_sem, St.start, Tryz.ntmps24, Tryz.results24, Limits.row]
    repeat (first | refine walkL_true rfl ?_ | refine walkL_false rfl ?_ | refine walkL_seq ?_ | refine walkL_skip ?_ | refine walkL_block ?_ | (refine walkL_region fun K hK => ?_; simp (maxSteps := 4000000) only [go_sem, hz]; (repeat (first | (refine ⟨_, .lent (hf := h47) (hd := rfl) (hr := rfl), ?_⟩; simp (maxSteps := 4000000) only [go_sem, hz]) | (refine ⟨_, .given (hf := h47) (hd := rfl) (ha := rfl), ?_⟩; simp (maxSteps := 4000000) only [go_sem, hz]))); refine hK _ ?_; clear hK K) | refine walkL_nil ?_ | refine walkL_ret ?_ | refine walkL_exit ?_ | refine blockA_here ?_ | refine blockA_other rfl ?_ | refine blockA_ret ?_ | refine blockA_normal ?_ | refine thenA_ret ?_ | refine thenA_exit ?_ | refine thenA_normal ?_)
    simp (maxSteps := 4000000) only [go_sem]
    try rfl
def gapAt (b : List Bool) (n : Int) (k : Nat) : Int := if decide (beginsF (b.drop k) n ≥ 0) then beginsF (b.drop k) n + n - 1 else (b.length : Int) - k
def gapTo (b : List Bool) (n : Int) : Nat → Int → Int
  | 0, g => g
  | k + 1, g => max (gapTo b n k g) (gapAt b n k)
def gapS (l : Limits) (n : Int) (S : List (List Hour)) : Int := S.foldl (fun g s => gapTo (s.map (alwaysB l)) n s.length g) 0
def gapF (F : List (List Hour)) (seen : List Sight) (l : Limits) (n : Int) : Int × Int :=
  if lookF F seen (limE l) (withinB n 1 48) = 0 then (gapS l n (scensOf (possL F seen)), 0) else (0, lookF F seen (limE l) (withinB n 1 48))
theorem begins_top {n : Int} (hn : 1 ≤ n) : ∀ (b : List Bool) (i : Nat) (run : Int), beginsFrom n b i run ≤ i + b.length
  | [], i, run => by
    rw [beginsFrom, List.length_nil]
    omega
  | x :: b, i, run => by
    rw [beginsFrom, List.length_cons]
    generalize (if x then run + 1 else 0) = r
    have := begins_top hn b (i + 1) r
    by_cases h : r = n
    · rw [if_pos h]; omega
    · rw [if_neg h]; omega
theorem f26 (F : List (List Hour)) (seen : List Sight) (l : Limits) (n : Int) (hs : ForeSmall F) (hsl : seen.length < 2 ^ 30) :
    Fn Tryz.prog 26 [.agg [.sl (scenRows F)], .sl (sightRows seen), .agg l.row, .i n] (.tup [.i (gapF F seen l n).1, .i (gapF F seen l n).2]) := by
  have h47 := f69 F seen l n hs hsl
  obtain ⟨e, he⟩ : ∃ e, e = lookF F seen (limE l) (withinB n 1 48) := ⟨_, rfl⟩
  unfold gapF
  rw [← he] at h47 ⊢
  by_cases h0 : e = 0
  · rw [if_pos h0, lookV] at h47
    rw [if_pos h0]
    have hz : (e != 0) = false := by simp [h0]
    rw [h0] at he
    obtain ⟨hg, hsi, hne, _, hn⟩ := look_all he.symm
    have hn := within_iff.1 hn
    have hall := scens_all (seen := seen) hg
    have hSl := scens_short (F := F) (seen := seen)
    have hH := hg.hours
    have hF := hg.scen
    obtain ⟨N, hN⟩ : ∃ N, N = numsOf (possL F seen) := ⟨_, rfl⟩
    obtain ⟨S, hS⟩ : ∃ S, S = scensOf (possL F seen) := ⟨_, rfl⟩
    obtain ⟨H, hHe⟩ : ∃ H, H = (hd0 F).length := ⟨_, rfl⟩
    rw [← hN, ← hS, ← hHe] at h47
    rw [← hS]
    rw [← hS] at hall hSl
    rw [← hHe] at hall hH
    rw [Limits.row] at h47
    refine fn_walk 72 Tryz.call26 Tryz.func26 rfl (by decide) fun J => ?_
    simp (maxSteps := 4000000) only [go_sem, St.start, Tryz.ntmps26, Tryz.results26, Limits.row]
    repeat (first | refine walkL_true rfl ?_ | refine walkL_false rfl ?_ | refine walkL_seq ?_ | refine walkL_skip ?_ | refine walkL_block ?_ | (refine walkL_region fun K hK => ?_; simp (maxSteps := 4000000) only [go_sem, hz]; (repeat (first | (refine ⟨_, .lent (hf := h47) (hd := rfl) (hr := rfl), ?_⟩; simp (maxSteps := 4000000) only [go_sem, hz]) | (refine ⟨_, .given (hf := h47) (hd := rfl) (ha := rfl), ?_⟩; simp (maxSteps := 4000000) only [go_sem, hz]))); refine hK _ ?_; clear hK K) | refine walkL_nil ?_ | refine walkL_ret ?_ | refine walkL_exit ?_ | refine blockA_here ?_ | refine blockA_other rfl ?_ | refine blockA_ret ?_ | refine blockA_normal ?_ | refine thenA_ret ?_ | refine thenA_exit ?_ | refine thenA_normal ?_)
    refine walkL_loopS (fun (i : Nat) => [(38, .d (.i i)), (13, .d (.i (gapS l n (S.take i))))]) (fun _ => []) (fun i => i ≤ S.length) (fun i => S.length - i) 0 ?_ (Nat.zero_le _) ?_
    · simp (maxSteps := 4000000) only [go_sem]
      refine weak_of [] ?_ ?_ rfl rfl <;> simp [lessT, lessM, lessB, AV.less]
      all_goals first | done | rfl
    · intro i hi
      obtain ⟨a, ha⟩ : ∃ a, a = gapS l n (S.take i) := ⟨_, rfl⟩
      rw [← ha]
      simp (maxSteps := 4000000) only [go_sem]
      repeat (first | refine walkL_seq ?_ | refine walkL_skip ?_ | refine walkL_block ?_ | (refine walkL_region fun K hK => ?_; simp (maxSteps := 4000000) only [go_sem]; refine hK _ ?_; clear hK K) | refine walkL_nil ?_ | refine walkL_ret ?_ | refine walkL_exit ?_ | refine blockA_here ?_ | refine blockA_other rfl ?_ | refine blockA_ret ?_ | refine blockA_normal ?_ | refine thenA_ret ?_ | refine thenA_exit ?_ | refine thenA_normal ?_)
      refine walkL_cond rfl (fun hb => ?_) (fun hb => ?_)
      · have hlti : i < S.length := by simpa using hb
        have hwi : IntKind.i64.wrap ((i : Int) + 1) = ((i + 1 : Nat) : Int) := by rw [wr_small (by omega)]; simp
        obtain ⟨s, hx⟩ : ∃ s, S[i]? = some s := ⟨_, List.getElem?_eq_getElem hlti⟩
        have g1 := scenRows_at hx
        have hsH := hall s (List.mem_of_getElem? hx)
        have c1 := f71 s 63 (.agg l.row) (alwaysB l) (fun h _ => f63 l h) (by omega)
        have n1 : gapS l n (S.take (i + 1)) = gapTo (s.map (alwaysB l)) n s.length a := by rw [ha]; exact foldl_take_succ _ _ _ _ _ hx
        have hbl : (s.map (alwaysB l)).length = s.length := by simp
        obtain ⟨b, hb1⟩ : ∃ b, b = s.map (alwaysB l) := ⟨_, rfl⟩
        rw [← hb1] at c1 n1 hbl
        rw [← hbl] at n1
        rw [Limits.row] at c1
        repeat (first | refine walkL_seq ?_ | refine walkL_skip ?_ | refine walkL_block ?_ | (refine walkL_region fun K hK => ?_; simp (maxSteps := 4000000) only [go_sem, g1]; (repeat (first | (refine ⟨_, .lent (hf := c1) (hd := rfl) (hr := rfl), ?_⟩; simp (maxSteps := 4000000) only [go_sem, g1]) | (refine ⟨_, .given (hf := c1) (hd := rfl) (ha := rfl), ?_⟩; simp (maxSteps := 4000000) only [go_sem, g1]))); refine hK _ ?_; clear hK K) | refine walkL_nil ?_ | refine walkL_ret ?_ | refine walkL_exit ?_ | refine blockA_here ?_ | refine blockA_other rfl ?_ | refine blockA_ret ?_ | refine blockA_normal ?_ | refine thenA_ret ?_ | refine thenA_exit ?_ | refine thenA_normal ?_)
        refine walkL_loopS (fun (k : Nat) => [(48, .d (.i k)), (13, .d (.i (gapTo b n k a)))]) (fun _ => []) (fun k => k ≤ b.length) (fun k => b.length - k) 0 ?_ (Nat.zero_le _) ?_
        · simp (maxSteps := 4000000) only [go_sem]
          refine weak_of [] ?_ ?_ rfl rfl <;> simp [lessT, lessM, lessB, AV.less]
          all_goals first | done | rfl
        · intro k hk
          have e1 : gapTo b n (k + 1) a = max (gapTo b n k a) (gapAt b n k) := rfl
          obtain ⟨x, hx0⟩ : ∃ x, x = gapTo b n k a := ⟨_, rfl⟩
          rw [← hx0] at e1 ⊢
          simp (maxSteps := 4000000) only [go_sem]
          repeat (first | refine walkL_seq ?_ | refine walkL_skip ?_ | refine walkL_block ?_ | (refine walkL_region fun K hK => ?_; simp (maxSteps := 4000000) only [go_sem]; refine hK _ ?_; clear hK K) | refine walkL_nil ?_ | refine walkL_ret ?_ | refine walkL_exit ?_ | refine blockA_here ?_ | refine blockA_other rfl ?_ | refine blockA_ret ?_ | refine blockA_normal ?_ | refine thenA_ret ?_ | refine thenA_exit ?_ | refine thenA_normal ?_)
          refine walkL_cond rfl (fun hb => ?_) (fun hb => ?_)
          · have hlt : k < b.length := by simpa using hb
            have hw : IntKind.i64.wrap ((k : Int) + 1) = ((k + 1 : Nat) : Int) := by rw [wr_small (by omega)]; simp
            have c2 := f70 (b.drop k) n ⟨by omega, by omega⟩ (by simp; omega)
            have hbt : beginsF (b.drop k) n ≤ b.length := by
              have := begins_top (n := n) (by omega) (b.drop k) 0 0
              unfold beginsF
              simp at this ⊢
              omega
            unfold gapAt at e1
            obtain ⟨y, hy⟩ : ∃ y, y = beginsF (b.drop k) n := ⟨_, rfl⟩
            rw [← hy] at c2 e1 hbt
            have w1 : IntKind.i64.wrap ((b.length : Int) - k) = (b.length : Int) - k := wr_small (by omega)
            have k0 : (0 : Int) ≤ (k : Int) ∧ (k : Int) ≤ (b.length : Int) := by omega
            have e2 : List.take (b.length - k) (List.drop k (boolRows b)) = boolRows (b.drop k) := by
              unfold boolRows
              rw [← List.map_drop, List.take_of_length_le (by simp)]
            have k1 : k ≤ b.length := hk
            cases qy : decide (y ≥ 0)
            · rw [qy] at e1
              simp only [Bool.false_eq_true, if_false] at e1
              repeat (first | refine walkL_true rfl ?_ | refine walkL_false rfl ?_ | refine walkL_seq ?_ | refine walkL_skip ?_ | refine walkL_block ?_ | (refine walkL_region fun K hK => ?_; simp (maxSteps := 4000000) only [go_sem, w1, k0, k1, e2, qy, hw]; (repeat (first | (refine ⟨_, .lent (hf := c2) (hd := rfl) (hr := rfl), ?_⟩; simp (maxSteps := 4000000) only [go_sem, w1, k0, k1, e2, qy, hw]) | (refine ⟨_, .given (hf := c2) (hd := rfl) (ha := rfl), ?_⟩; simp (maxSteps := 4000000) only [go_sem, w1, k0, k1, e2, qy, hw]))); refine hK _ ?_; clear hK K) | refine walkL_nil ?_ | refine walkL_ret ?_ | refine walkL_exit ?_ | refine blockA_here ?_ | refine blockA_other rfl ?_ | refine blockA_ret ?_ | refine blockA_normal ?_ | refine thenA_ret ?_ | refine thenA_exit ?_ | refine thenA_normal ?_)
              refine ⟨rfl, k + 1, ?_, hlt, by omega⟩
              rw [e1]
              refine weak_of [] ?_ ?_ rfl rfl <;> simp [lessT, lessM, lessB, AV.less]
              all_goals first | done | rfl
            · have hy0 : y ≥ 0 := of_decide_eq_true qy
              have w2 : IntKind.i64.wrap (y + n) = y + n := wr_small (by omega)
              have w3 : IntKind.i64.wrap (y + n - 1) = y + n - 1 := wr_small (by omega)
              rw [qy] at e1
              simp only [if_true] at e1
              repeat (first | refine walkL_true rfl ?_ | refine walkL_false rfl ?_ | refine walkL_seq ?_ | refine walkL_skip ?_ | refine walkL_block ?_ | (refine walkL_region fun K hK => ?_; simp (maxSteps := 4000000) only [go_sem, w1, w2, w3, k0, k1, e2, qy, hw]; (repeat (first | (refine ⟨_, .lent (hf := c2) (hd := rfl) (hr := rfl), ?_⟩; simp (maxSteps := 4000000) only [go_sem, w1, w2, w3, k0, k1, e2, qy, hw]) | (refine ⟨_, .given (hf := c2) (hd := rfl) (ha := rfl), ?_⟩; simp (maxSteps := 4000000) only [go_sem, w1, w2, w3, k0, k1, e2, qy, hw]))); refine hK _ ?_; clear hK K) | refine walkL_nil ?_ | refine walkL_ret ?_ | refine walkL_exit ?_ | refine blockA_here ?_ | refine blockA_other rfl ?_ | refine blockA_ret ?_ | refine blockA_normal ?_ | refine thenA_ret ?_ | refine thenA_exit ?_ | refine thenA_normal ?_)
              refine ⟨rfl, k + 1, ?_, hlt, by omega⟩
              rw [e1]
              refine weak_of [] ?_ ?_ rfl rfl <;> simp [lessT, lessM, lessB, AV.less]
              all_goals first | done | rfl
          · have he : k = b.length := by (have : ¬ k < b.length := by simpa using hb); omega
            subst he
            rw [← n1] at hx0
            rw [hx0]
            repeat (first | refine walkL_seq ?_ | refine walkL_skip ?_ | refine walkL_block ?_ | (refine walkL_region fun K hK => ?_; simp (maxSteps := 4000000) only [go_sem, hwi]; refine hK _ ?_; clear hK K) | refine walkL_nil ?_ | refine walkL_ret ?_ | refine walkL_exit ?_ | refine blockA_here ?_ | refine blockA_other rfl ?_ | refine blockA_ret ?_ | refine blockA_normal ?_ | refine thenA_ret ?_ | refine thenA_exit ?_ | refine thenA_normal ?_)
            refine ⟨rfl, i + 1, ?_, hlti, by omega⟩
            refine weak_of [] ?_ ?_ rfl rfl <;> simp [lessT, lessM, lessB, AV.less]
            all_goals first | done | rfl
      · have he : i = S.length := by (have : ¬ i < S.length := by simpa using hb); omega
        subst he
        rw [List.take_length] at ha
        rw [← ha]
        repeat (first | refine walkL_seq ?_ | refine walkL_skip ?_ | refine walkL_block ?_ | (refine walkL_region fun K hK => ?_; simp (maxSteps := 4000000) only [go_sem]; refine hK _ ?_; clear hK K) | refine walkL_nil ?_ | refine walkL_ret ?_ | refine walkL_exit ?_ | refine blockA_here ?_ | refine blockA_other rfl ?_ | refine blockA_ret ?_ | refine blockA_normal ?_ | refine thenA_ret ?_ | refine thenA_exit ?_ | refine thenA_normal ?_)
        simp (maxSteps := 4000000) only [go_sem, h0]
  · rw [if_neg h0] at h47
    rw [if_neg h0]
    have hz : (e != 0) = true := by simpa using h0
    rw [Limits.row] at h47
    refine fn_walk 72 Tryz.call26 Tryz.func26 rfl (by decide) fun J => ?_
    simp (maxSteps := 4000000) only [go_sem, St.start, Tryz.ntmps26, Tryz.results26, Limits.row]
    repeat (first | refine walkL_true rfl ?_ | refine walkL_false rfl ?_ | refine walkL_seq ?_ | refine walkL_skip ?_ | refine walkL_block ?_ | (refine walkL_region fun K hK => ?_; simp (maxSteps := 4000000) only [go_sem, hz]; (repeat (first | (refine ⟨_, .lent (hf := h47) (hd := rfl) (hr := rfl), ?_⟩; simp (maxSteps := 4000000) only [go_sem, hz]) | (refine ⟨_, .given (hf := h47) (hd := rfl) (ha := rfl), ?_⟩; simp (maxSteps := 4000000) only [go_sem, hz]))); refine hK _ ?_; clear hK K) | refine walkL_nil ?_ | refine walkL_ret ?_ | refine walkL_exit ?_ | refine blockA_here ?_ | refine blockA_other rfl ?_ | refine blockA_ret ?_ | refine blockA_normal ?_ | refine thenA_ret ?_ | refine thenA_exit ?_ | refine thenA_normal ?_)
    simp (maxSteps := 4000000) only [go_sem]
    try rfl
end Go.Ab
namespace Go.Ab
open Go.RowKit Go.Proofs
structure Path where
  frm : Int
  to : Int
  grade : Int
  time : Span
  snow : Span
  opens : List Span
structure Net where
  places : Int
  paths : List Path
structure Party where
  grade : Int
  load : Int
  pace : Span
def Path.row (p : Path) : List DV := [.i p.frm, .i p.to, .i p.grade, .i p.time.lo, .i p.time.hi, .i p.snow.lo, .i p.snow.hi, .sl (p.opens.map Span.row)]
def Net.cells (n : Net) : List DV := [.i n.places, .sl (n.paths.map Path.row)]
def Party.cells (p : Party) : List DV := [.i p.grade, .i p.load, .i p.pace.lo, .i p.pace.hi]
def walkCells (n : Net) (p : Party) : List DV := [.i n.places, .sl (n.paths.map Path.row), .i p.grade, .i p.load, .i p.pace.lo, .i p.pace.hi]
def timeW (t pace snow load : Int) : Int := wr ((wr (wr (wr (t * pace) * wr (wr (100 + wr (5 * snow)) + load)) + 9999)).tdiv 10000)
theorem f123 (n lo hi : Int) : Fn Tryz.prog 123 [.i n, .i lo, .i hi] (.bool (withinB n lo hi)) := by
  refine fn_walk 15 Tryz.call123 Tryz.func123 rfl (by decide) fun J => ?_
  simp (maxSteps := 4000000) only [go_sem, St.start, Tryz.ntmps123, Tryz.results123]
  by_cases h : lo ≤ n
  · repeat (first | refine walkL_seq ?_ | refine walkL_skip ?_ | refine walkL_block ?_ | (refine walkL_region fun K hK => ?_; simp (maxSteps := 4000000) only [go_sem, h]; refine hK _ ?_; clear hK K) | refine walkL_nil ?_ | refine walkL_ret ?_ | refine walkL_exit ?_ | refine blockA_here ?_ | refine blockA_other rfl ?_ | refine blockA_ret ?_ | refine blockA_normal ?_ | refine thenA_ret ?_ | refine thenA_exit ?_ | refine thenA_normal ?_)
    simp (maxSteps := 4000000) only [go_sem, withinB, h]
  · repeat (first | refine walkL_seq ?_ | refine walkL_skip ?_ | refine walkL_block ?_ | (refine walkL_region fun K hK => ?_; simp (maxSteps := 4000000) only [go_sem, h]; refine hK _ ?_; clear hK K) | refine walkL_nil ?_ | refine walkL_ret ?_ | refine walkL_exit ?_ | refine blockA_here ?_ | refine blockA_other rfl ?_ | refine blockA_ret ?_ | refine blockA_normal ?_ | refine thenA_ret ?_ | refine thenA_exit ?_ | refine thenA_normal ?_)
    simp (maxSteps := 4000000) only [go_sem, withinB, h]
theorem f75 (n lo hi : Int) : Fn Tryz.prog 75 [.i n, .i lo, .i hi] (.bool (withinB n lo hi)) := by
  refine fn_walk 15 Tryz.call75 Tryz.func75 rfl (by decide) fun J => ?_
  simp (maxSteps := 4000000) only [go_sem, St.start, Tryz.ntmps75, Tryz.results75]
  by_cases h : lo ≤ n
  · repeat (first | refine walkL_seq ?_ | refine walkL_skip ?_ | refine walkL_block ?_ | (refine walkL_region fun K hK => ?_; simp (maxSteps := 4000000) only [go_sem, h, ge_iff_le]; refine hK _ ?_; clear hK K) | refine walkL_nil ?_ | refine walkL_ret ?_ | refine walkL_exit ?_ | refine blockA_here ?_ | refine blockA_other rfl ?_ | refine blockA_ret ?_ | refine blockA_normal ?_ | refine thenA_ret ?_ | refine thenA_exit ?_ | refine thenA_normal ?_)
    simp (maxSteps := 4000000) only [go_sem, withinB, h]
  · repeat (first | refine walkL_seq ?_ | refine walkL_skip ?_ | refine walkL_block ?_ | (refine walkL_region fun K hK => ?_; simp (maxSteps := 4000000) only [go_sem, h, ge_iff_le]; refine hK _ ?_; clear hK K) | refine walkL_nil ?_ | refine walkL_ret ?_ | refine walkL_exit ?_ | refine blockA_here ?_ | refine blockA_other rfl ?_ | refine blockA_ret ?_ | refine blockA_normal ?_ | refine thenA_ret ?_ | refine thenA_exit ?_ | refine thenA_normal ?_)
    simp (maxSteps := 4000000) only [go_sem, withinB, h]
theorem f135 (s : Span) (lo hi : Int) : Fn Tryz.prog 135 [.agg s.row, .i lo, .i hi] (.bool (orderedB s lo hi)) := by
  refine fn_walk 24 Tryz.call135 Tryz.func135 rfl (by decide) fun J => ?_
  simp (maxSteps := 4000000) only [go_sem, St.start, Tryz.ntmps135, Tryz.results135, Span.row]
  by_cases h : lo ≤ s.lo <;> by_cases h2 : s.lo ≤ s.hi
  all_goals
    repeat (first | refine walkL_seq ?_ | refine walkL_skip ?_ | refine walkL_block ?_ | (refine walkL_region fun K hK => ?_; simp (maxSteps := 4000000) only [go_sem, h, h2]; refine hK _ ?_; clear hK K) | refine walkL_nil ?_ | refine walkL_ret ?_ | refine walkL_exit ?_ | refine blockA_here ?_ | refine blockA_other rfl ?_ | refine blockA_ret ?_ | refine blockA_normal ?_ | refine thenA_ret ?_ | refine thenA_exit ?_ | refine thenA_normal ?_)
    simp (maxSteps := 4000000) only [go_sem, orderedB, h, h2]
theorem f76 (s : Span) (lo hi : Int) : Fn Tryz.prog 76 [.agg s.row, .i lo, .i hi] (.bool (orderedB s lo hi)) := by
  refine fn_walk 24 Tryz.call76 Tryz.func76 rfl (by decide) fun J => ?_
  simp (maxSteps := 4000000) only [go_sem, St.start, Tryz.ntmps76, Tryz.results76, Span.row]
  by_cases h : lo ≤ s.lo <;> by_cases h2 : s.lo ≤ s.hi
  all_goals
    repeat (first | refine walkL_seq ?_ | refine walkL_skip ?_ | refine walkL_block ?_ | (refine walkL_region fun K hK => ?_; simp (maxSteps := 4000000) only [go_sem, h, h2, ge_iff_le]; refine hK _ ?_; clear hK K) | refine walkL_nil ?_ | refine walkL_ret ?_ | refine walkL_exit ?_ | refine blockA_here ?_ | refine blockA_other rfl ?_ | refine blockA_ret ?_ | refine blockA_normal ?_ | refine thenA_ret ?_ | refine thenA_exit ?_ | refine thenA_normal ?_)
    simp (maxSteps := 4000000) only [go_sem, orderedB, h, h2]
theorem f133 (n : Net) (x : Int) (hn : 0 ≤ n.places ∧ n.places < 2 ^ 62) : Fn Tryz.prog 133 [.i x, .ptr n.cells 0] (.bool (withinB x 0 (n.places - 1))) := by
  refine fn_walk 9 Tryz.call133 Tryz.func133 rfl (by decide) fun J => ?_
  simp (maxSteps := 4000000) only [go_sem, St.start, Tryz.ntmps133, Tryz.results133, Net.cells]
  have hw : IntKind.i64.wrap (n.places - 1) = n.places - 1 := wr_small (by omega)
  repeat (first | refine walkL_seq ?_ | refine walkL_skip ?_ | refine walkL_block ?_ | (refine walkL_region fun K hK => ?_; simp (maxSteps := 4000000) only [go_sem, hw]; (repeat (first | (refine ⟨_, .lent (hf := f123 _ _ _) (hd := rfl) (hr := rfl), ?_⟩; simp (maxSteps := 4000000) only [go_sem, hw]) | (refine ⟨_, .given (hf := f123 _ _ _) (hd := rfl) (ha := rfl), ?_⟩; simp (maxSteps := 4000000) only [go_sem, hw]))); refine hK _ ?_; clear hK K) | refine walkL_nil ?_ | refine walkL_ret ?_ | refine walkL_exit ?_ | refine blockA_here ?_ | refine blockA_other rfl ?_ | refine blockA_ret ?_ | refine blockA_normal ?_ | refine thenA_ret ?_ | refine thenA_exit ?_ | refine thenA_normal ?_)
  simp (maxSteps := 4000000) only [go_sem]
theorem f32 (n : Net) (x : Int) (hn : -(2 ^ 62) ≤ n.places ∧ n.places < 2 ^ 62) : Fn Tryz.prog 32 [.agg n.cells, .i x] (.bool (withinB x 0 (n.places - 1))) := by
  refine fn_walk 10 Tryz.call32 Tryz.func32 rfl (by decide) fun J => ?_
  simp (maxSteps := 4000000) only [go_sem, St.start, Tryz.ntmps32, Tryz.results32, Net.cells]
  have hw : IntKind.i64.wrap (n.places - 1) = n.places - 1 := wr_small (by omega)
  repeat (first | refine walkL_seq ?_ | refine walkL_skip ?_ | refine walkL_block ?_ | (refine walkL_region fun K hK => ?_; simp (maxSteps := 4000000) only [go_sem, hw]; (repeat (first | (refine ⟨_, .lent (hf := f75 _ _ _) (hd := rfl) (hr := rfl), ?_⟩; simp (maxSteps := 4000000) only [go_sem, hw]) | (refine ⟨_, .given (hf := f75 _ _ _) (hd := rfl) (ha := rfl), ?_⟩; simp (maxSteps := 4000000) only [go_sem, hw]))); refine hK _ ?_; clear hK K) | refine walkL_nil ?_ | refine walkL_ret ?_ | refine walkL_exit ?_ | refine blockA_here ?_ | refine blockA_other rfl ?_ | refine blockA_ret ?_ | refine blockA_normal ?_ | refine thenA_ret ?_ | refine thenA_exit ?_ | refine thenA_normal ?_)
  simp (maxSteps := 4000000) only [go_sem]
theorem f43 (n : Net) (x : Int) (hn : n.paths.length < 2 ^ 62) : Fn Tryz.prog 43 [.agg n.cells, .i x] (.bool (withinB x 0 (n.paths.length - 1))) := by
  refine fn_walk 11 Tryz.call43 Tryz.func43 rfl (by decide) fun J => ?_
  simp (maxSteps := 4000000) only [go_sem, St.start, Tryz.ntmps43, Tryz.results43, Net.cells]
  have hw : IntKind.i64.wrap ((n.paths.length : Int) - 1) = n.paths.length - 1 := wr_small (by omega)
  repeat (first | refine walkL_seq ?_ | refine walkL_skip ?_ | refine walkL_block ?_ | (refine walkL_region fun K hK => ?_; simp (maxSteps := 4000000) only [go_sem, hw]; (repeat (first | (refine ⟨_, .lent (hf := f75 _ _ _) (hd := rfl) (hr := rfl), ?_⟩; simp (maxSteps := 4000000) only [go_sem, hw]) | (refine ⟨_, .given (hf := f75 _ _ _) (hd := rfl) (ha := rfl), ?_⟩; simp (maxSteps := 4000000) only [go_sem, hw]))); refine hK _ ?_; clear hK K) | refine walkL_nil ?_ | refine walkL_ret ?_ | refine walkL_exit ?_ | refine blockA_here ?_ | refine blockA_other rfl ?_ | refine blockA_ret ?_ | refine blockA_normal ?_ | refine thenA_ret ?_ | refine thenA_exit ?_ | refine thenA_normal ?_)
  simp (maxSteps := 4000000) only [go_sem]
theorem f134 (s : Span) (n : DV) : Fn Tryz.prog 134 [.agg s.row] (.bool (!orderedB s 0 2880)) := by
  refine fn_walk 6 Tryz.call134 Tryz.func134 rfl (by decide) fun J => ?_
  simp (maxSteps := 4000000) only [go_sem, St.start, Tryz.ntmps134, Tryz.results134, Span.row]
  repeat (first | refine walkL_seq ?_ | refine walkL_skip ?_ | refine walkL_block ?_ | (refine walkL_region fun K hK => ?_; simp (maxSteps := 4000000) only [go_sem]; (repeat (first | (refine ⟨_, .lent (hf := f135 s _ _) (hd := rfl) (hr := rfl), ?_⟩; simp (maxSteps := 4000000) only [go_sem]) | (refine ⟨_, .given (hf := f135 s _ _) (hd := rfl) (ha := rfl), ?_⟩; simp (maxSteps := 4000000) only [go_sem]))); refine hK _ ?_; clear hK K) | refine walkL_nil ?_ | refine walkL_ret ?_ | refine walkL_exit ?_ | refine blockA_here ?_ | refine blockA_other rfl ?_ | refine blockA_ret ?_ | refine blockA_normal ?_ | refine thenA_ret ?_ | refine thenA_exit ?_ | refine thenA_normal ?_)
  simp (maxSteps := 4000000) only [go_sem]
theorem f84 (lo hi : Int) : Fn Tryz.prog 84 [.i lo, .i hi] (.agg [.i lo, .i hi]) := by
  refine fn_walk 8 Tryz.call84 Tryz.func84 rfl (by decide) fun J => ?_
  simp (maxSteps := 4000000) only [go_sem, St.start, Tryz.ntmps84, Tryz.results84]
  repeat (first | refine walkL_seq ?_ | refine walkL_skip ?_ | refine walkL_block ?_ | (refine walkL_region fun K hK => ?_; simp (maxSteps := 4000000) only [go_sem]; refine hK _ ?_; clear hK K) | refine walkL_nil ?_ | refine walkL_ret ?_ | refine walkL_exit ?_ | refine blockA_here ?_ | refine blockA_other rfl ?_ | refine blockA_ret ?_ | refine blockA_normal ?_ | refine thenA_ret ?_ | refine thenA_exit ?_ | refine thenA_normal ?_)
  simp (maxSteps := 4000000) only [go_sem]
def enterF (opens : List Span) (t : Int) : Int := opens.foldl (fun f s => if t ≤ s.hi then min f (max t s.lo) else f) 1073741824
end Go.Ab
namespace Go.Ab
open Go.RowKit Go.Proofs
def spanW (x : Path) (p : Party) : Span := ⟨timeW x.time.lo p.pace.lo x.snow.lo p.load, timeW x.time.hi p.pace.hi x.snow.hi p.load⟩
theorem f142 (xs : List Span) (g : Nat) (caps : List DV) (q : Span → Bool) (hq : ∀ s ∈ xs, Fn Tryz.prog g (.agg s.row :: caps) (.bool (q s))) (hl : xs.length < 2 ^ 62) : Fn Tryz.prog 142 [.sl (xs.map Span.row), .fn g caps] (.i (idxFrom q xs 0)) := by
  refine fn_walk 19 Tryz.call142 Tryz.func142 rfl (by decide) fun J => ?_
  simp (maxSteps := 4000000) only [go_sem, St.start, Tryz.ntmps142, Tryz.results142]
  repeat (first | refine walkL_seq ?_ | refine walkL_skip ?_ | refine walkL_block ?_ | (refine walkL_region fun K hK => ?_; simp (maxSteps := 4000000) only [go_sem]; refine hK _ ?_; clear hK K) | refine walkL_nil ?_ | refine walkL_ret ?_ | refine walkL_exit ?_ | refine blockA_here ?_ | refine blockA_other rfl ?_ | refine blockA_ret ?_ | refine blockA_normal ?_ | refine thenA_ret ?_ | refine thenA_exit ?_ | refine thenA_normal ?_)
  refine walkL_loopS (fun (i : Nat) => [(8, .d (.i i))]) (fun _ => []) (fun i => i ≤ xs.length ∧ idxFrom q xs 0 = idxFrom q (xs.drop i) i) (fun i => xs.length - i) 0 ?_ ⟨Nat.zero_le _, rfl⟩ ?_
  · simp (maxSteps := 4000000) only [go_sem]
    refine weak_of [] ?_ ?_ rfl rfl <;> simp [lessT, lessM, lessB, AV.less]
  · intro i ⟨hi, hq0⟩
    simp (maxSteps := 4000000) only [go_sem]
    repeat (first | refine walkL_seq ?_ | refine walkL_skip ?_ | refine walkL_block ?_ | (refine walkL_region fun K hK => ?_; simp (maxSteps := 4000000) only [go_sem]; refine hK _ ?_; clear hK K) | refine walkL_nil ?_ | refine walkL_ret ?_ | refine walkL_exit ?_ | refine blockA_here ?_ | refine blockA_other rfl ?_ | refine blockA_ret ?_ | refine blockA_normal ?_ | refine thenA_ret ?_ | refine thenA_exit ?_ | refine thenA_normal ?_)
    refine walkL_cond rfl (fun hb => ?_) (fun hb => ?_)
    · have hlt : i < xs.length := by simpa using hb
      obtain ⟨s, hs⟩ : ∃ s, xs[i]? = some s := ⟨_, List.getElem?_eq_getElem hlt⟩
      have hw : IntKind.i64.wrap ((i : Int) + 1) = ((i + 1 : Nat) : Int) := by rw [wr_small (by omega)]; simp
      rw [drop_get hs, idxFrom] at hq0
      repeat (first | refine walkL_seq ?_ | refine walkL_skip ?_ | refine walkL_block ?_ | (refine walkL_region fun K hK => ?_; simp (maxSteps := 4000000) only [go_sem]; refine hK _ ?_; clear hK K) | refine walkL_nil ?_ | refine walkL_ret ?_ | refine walkL_exit ?_ | refine blockA_here ?_ | refine blockA_other rfl ?_ | refine blockA_ret ?_ | refine blockA_normal ?_ | refine thenA_ret ?_ | refine thenA_exit ?_ | refine thenA_normal ?_)
      refine walkL_region fun K hK => ?_
      simp (maxSteps := 4000000) only [go_sem, hs, List.getElem?_map, Span.row, hw]
      refine ⟨_, .lent (hf := hq s (List.mem_of_getElem? hs)) (hd := reify_caps _ _ _ _ rfl) (hr := rfl), ?_⟩
      simp (maxSteps := 4000000) only [go_sem]
      refine hK _ ?_
      clear hK K
      refine walkL_cond rfl (fun hc => ?_) (fun hc => ?_)
      · rw [hc, if_pos rfl] at hq0
        repeat (first | refine walkL_seq ?_ | refine walkL_skip ?_ | refine walkL_block ?_ | (refine walkL_region fun K hK => ?_; simp (maxSteps := 4000000) only [go_sem]; refine hK _ ?_; clear hK K) | refine walkL_nil ?_ | refine walkL_ret ?_ | refine walkL_exit ?_ | refine blockA_here ?_ | refine blockA_other rfl ?_ | refine blockA_ret ?_ | refine blockA_normal ?_ | refine thenA_ret ?_ | refine thenA_exit ?_ | refine thenA_normal ?_)
        simp (maxSteps := 4000000) only [go_sem, hq0]
      · rw [hc] at hq0
        repeat (first | refine walkL_seq ?_ | refine walkL_skip ?_ | refine walkL_block ?_ | (refine walkL_region fun K hK => ?_; simp (maxSteps := 4000000) only [go_sem, hw]; refine hK _ ?_; clear hK K) | refine walkL_nil ?_ | refine walkL_ret ?_ | refine walkL_exit ?_ | refine blockA_here ?_ | refine blockA_other rfl ?_ | refine blockA_ret ?_ | refine blockA_normal ?_ | refine thenA_ret ?_ | refine thenA_exit ?_ | refine thenA_normal ?_)
        refine ⟨rfl, i + 1, ?_, ⟨hlt, hq0⟩, by omega⟩
        refine weak_of [] ?_ ?_ rfl rfl <;> simp [lessT, lessM, lessB, AV.less]
    · have he : i = xs.length := by have : ¬ i < xs.length := by simpa using hb
                                    omega
      subst he
      repeat (first | refine walkL_seq ?_ | refine walkL_skip ?_ | refine walkL_block ?_ | (refine walkL_region fun K hK => ?_; simp (maxSteps := 4000000) only [go_sem]; refine hK _ ?_; clear hK K) | refine walkL_nil ?_ | refine walkL_ret ?_ | refine walkL_exit ?_ | refine blockA_here ?_ | refine blockA_other rfl ?_ | refine blockA_ret ?_ | refine blockA_normal ?_ | refine thenA_ret ?_ | refine thenA_exit ?_ | refine thenA_normal ?_)
      simp (maxSteps := 4000000) only [go_sem, hq0, List.drop_length, idxFrom]
theorem f157 (xs : List (Path)) (g : Nat) (caps : List DV) (q : Path → Bool) (hq : ∀ s ∈ xs, Fn Tryz.prog g (.agg s.row :: caps) (.bool (q s))) (hl : xs.length < 2 ^ 62) : Fn Tryz.prog 157 [.sl (xs.map Path.row), .fn g caps] (.i (idxFrom q xs 0)) := by
  refine fn_walk 19 Tryz.call157 Tryz.func157 rfl (by decide) fun J => ?_
  simp (maxSteps := 4000000) only [go_sem, St.start, Tryz.ntmps157, Tryz.results157]
  repeat (first | refine walkL_seq ?_ | refine walkL_skip ?_ | refine walkL_block ?_ | (refine walkL_region fun K hK => ?_; simp (maxSteps := 4000000) only [go_sem]; refine hK _ ?_; clear hK K) | refine walkL_nil ?_ | refine walkL_ret ?_ | refine walkL_exit ?_ | refine blockA_here ?_ | refine blockA_other rfl ?_ | refine blockA_ret ?_ | refine blockA_normal ?_ | refine thenA_ret ?_ | refine thenA_exit ?_ | refine thenA_normal ?_)
  refine walkL_loopS (fun (i : Nat) => [(8, .d (.i i))]) (fun _ => []) (fun i => i ≤ xs.length ∧ idxFrom q xs 0 = idxFrom q (xs.drop i) i) (fun i => xs.length - i) 0 ?_ ⟨Nat.zero_le _, rfl⟩ ?_
  · simp (maxSteps := 4000000) only [go_sem]
    refine weak_of [] ?_ ?_ rfl rfl <;> simp [lessT, lessM, lessB, AV.less]
  · intro i ⟨hi, hq0⟩
    simp (maxSteps := 4000000) only [go_sem]
    repeat (first | refine walkL_seq ?_ | refine walkL_skip ?_ | refine walkL_block ?_ | (refine walkL_region fun K hK => ?_; simp (maxSteps := 4000000) only [go_sem]; refine hK _ ?_; clear hK K) | refine walkL_nil ?_ | refine walkL_ret ?_ | refine walkL_exit ?_ | refine blockA_here ?_ | refine blockA_other rfl ?_ | refine blockA_ret ?_ | refine blockA_normal ?_ | refine thenA_ret ?_ | refine thenA_exit ?_ | refine thenA_normal ?_)
    refine walkL_cond rfl (fun hb => ?_) (fun hb => ?_)
    · have hlt : i < xs.length := by simpa using hb
      obtain ⟨s, hs⟩ : ∃ s, xs[i]? = some s := ⟨_, List.getElem?_eq_getElem hlt⟩
      have hw : IntKind.i64.wrap ((i : Int) + 1) = ((i + 1 : Nat) : Int) := by rw [wr_small (by omega)]; simp
      rw [drop_get hs, idxFrom] at hq0
      repeat (first | refine walkL_seq ?_ | refine walkL_skip ?_ | refine walkL_block ?_ | (refine walkL_region fun K hK => ?_; simp (maxSteps := 4000000) only [go_sem]; refine hK _ ?_; clear hK K) | refine walkL_nil ?_ | refine walkL_ret ?_ | refine walkL_exit ?_ | refine blockA_here ?_ | refine blockA_other rfl ?_ | refine blockA_ret ?_ | refine blockA_normal ?_ | refine thenA_ret ?_ | refine thenA_exit ?_ | refine thenA_normal ?_)
      refine walkL_region fun K hK => ?_
      simp (maxSteps := 4000000) only [go_sem, hs, List.getElem?_map, Path.row, hw]
      refine ⟨_, .lent (hf := hq s (List.mem_of_getElem? hs)) (hd := reify_caps _ _ _ _ rfl) (hr := rfl), ?_⟩
      simp (maxSteps := 4000000) only [go_sem]
      refine hK _ ?_
      clear hK K
      refine walkL_cond rfl (fun hc => ?_) (fun hc => ?_)
      · rw [hc, if_pos rfl] at hq0
        repeat (first | refine walkL_seq ?_ | refine walkL_skip ?_ | refine walkL_block ?_ | (refine walkL_region fun K hK => ?_; simp (maxSteps := 4000000) only [go_sem]; refine hK _ ?_; clear hK K) | refine walkL_nil ?_ | refine walkL_ret ?_ | refine walkL_exit ?_ | refine blockA_here ?_ | refine blockA_other rfl ?_ | refine blockA_ret ?_ | refine blockA_normal ?_ | refine thenA_ret ?_ | refine thenA_exit ?_ | refine thenA_normal ?_)
        simp (maxSteps := 4000000) only [go_sem, hq0]
      · rw [hc] at hq0
        repeat (first | refine walkL_seq ?_ | refine walkL_skip ?_ | refine walkL_block ?_ | (refine walkL_region fun K hK => ?_; simp (maxSteps := 4000000) only [go_sem, hw]; refine hK _ ?_; clear hK K) | refine walkL_nil ?_ | refine walkL_ret ?_ | refine walkL_exit ?_ | refine blockA_here ?_ | refine blockA_other rfl ?_ | refine blockA_ret ?_ | refine blockA_normal ?_ | refine thenA_ret ?_ | refine thenA_exit ?_ | refine thenA_normal ?_)
        refine ⟨rfl, i + 1, ?_, ⟨hlt, hq0⟩, by omega⟩
        refine weak_of [] ?_ ?_ rfl rfl <;> simp [lessT, lessM, lessB, AV.less]
    · have he : i = xs.length := by have : ¬ i < xs.length := by simpa using hb
                                    omega
      subst he
      repeat (first | refine walkL_seq ?_ | refine walkL_skip ?_ | refine walkL_block ?_ | (refine walkL_region fun K hK => ?_; simp (maxSteps := 4000000) only [go_sem]; refine hK _ ?_; clear hK K) | refine walkL_nil ?_ | refine walkL_ret ?_ | refine walkL_exit ?_ | refine blockA_here ?_ | refine blockA_other rfl ?_ | refine blockA_ret ?_ | refine blockA_normal ?_ | refine thenA_ret ?_ | refine thenA_exit ?_ | refine thenA_normal ?_)
      simp (maxSteps := 4000000) only [go_sem, hq0, List.drop_length, idxFrom]
theorem f99 (xs : List (Span)) (g : Nat) (caps : List DV) (q : Span → Bool) (hq : ∀ s ∈ xs, Fn Tryz.prog g (.agg s.row :: caps) (.bool (q s))) (hl : xs.length < 2 ^ 62) : Fn Tryz.prog 99 [.sl (xs.map Span.row), .fn g caps] (.bool (xs.any q)) := by
  refine fn_walk 9 Tryz.call99 Tryz.func99 rfl (by decide) fun J => ?_
  simp (maxSteps := 4000000) only [go_sem, St.start, Tryz.ntmps99, Tryz.results99]
  repeat (first | refine walkL_seq ?_ | refine walkL_skip ?_ | refine walkL_block ?_ | (refine walkL_region fun K hK => ?_; simp (maxSteps := 4000000) only [go_sem]; (repeat (first | (refine ⟨_, .lent (hf := f142 xs g caps q hq hl) (hd := rfl) (hr := rfl), ?_⟩; simp (maxSteps := 4000000) only [go_sem]) | (refine ⟨_, .given (hf := f142 xs g caps q hq hl) (hd := rfl) (ha := rfl), ?_⟩; simp (maxSteps := 4000000) only [go_sem]))); refine hK _ ?_; clear hK K) | refine walkL_nil ?_ | refine walkL_ret ?_ | refine walkL_exit ?_ | refine blockA_here ?_ | refine blockA_other rfl ?_ | refine blockA_ret ?_ | refine blockA_normal ?_ | refine thenA_ret ?_ | refine thenA_exit ?_ | refine thenA_normal ?_)
  simp (maxSteps := 4000000) only [go_sem, idxFrom_nonneg]
theorem f137 (xs : List (Path)) (g : Nat) (caps : List DV) (q : Path → Bool) (hq : ∀ s ∈ xs, Fn Tryz.prog g (.agg s.row :: caps) (.bool (q s))) (hl : xs.length < 2 ^ 62) : Fn Tryz.prog 137 [.sl (xs.map Path.row), .fn g caps] (.bool (xs.any q)) := by
  refine fn_walk 9 Tryz.call137 Tryz.func137 rfl (by decide) fun J => ?_
  simp (maxSteps := 4000000) only [go_sem, St.start, Tryz.ntmps137, Tryz.results137]
  repeat (first | refine walkL_seq ?_ | refine walkL_skip ?_ | refine walkL_block ?_ | (refine walkL_region fun K hK => ?_; simp (maxSteps := 4000000) only [go_sem]; (repeat (first | (refine ⟨_, .lent (hf := f157 xs g caps q hq hl) (hd := rfl) (hr := rfl), ?_⟩; simp (maxSteps := 4000000) only [go_sem]) | (refine ⟨_, .given (hf := f157 xs g caps q hq hl) (hd := rfl) (ha := rfl), ?_⟩; simp (maxSteps := 4000000) only [go_sem]))); refine hK _ ?_; clear hK K) | refine walkL_nil ?_ | refine walkL_ret ?_ | refine walkL_exit ?_ | refine blockA_here ?_ | refine blockA_other rfl ?_ | refine blockA_ret ?_ | refine blockA_normal ?_ | refine thenA_ret ?_ | refine thenA_exit ?_ | refine thenA_normal ?_)
  simp (maxSteps := 4000000) only [go_sem, idxFrom_nonneg]
end Go.Ab
namespace Go.Ab
open Go.RowKit Go.Proofs
def latestF (opens : List Span) (b : Int) : Int := opens.foldl (fun last s => if s.lo ≤ b then max last (min s.hi b) else last) (-1)
def arriveF (opens : List Span) (t time : Int) : Int := if wr (enterF opens t + time) > 2880 then 1073741824 else wr (enterF opens t + time)
def stepF (x : Path) (p : Party) (t : Int) (high : Bool) : Int :=
  if enterF x.opens t ≥ 1073741824 then 1073741824 else
    let a := wr (enterF x.opens t + if high then (spanW x p).hi else (spanW x p).lo)
    if a > 2880 then 1073741824 else a
end Go.Ab
namespace Go.Ab
open Go.RowKit Go.Proofs
def waysFrom (p : Party) (but : Int) : List Path → Nat → List (Nat × Path)
  | [], _ => []
  | x :: xs, i => if (i : Int) ≠ but ∧ x.grade ≤ p.grade then (i, x) :: waysFrom p but xs (i + 1) else waysFrom p but xs (i + 1)
def waysL (n : Net) (p : Party) (but : Int) : List (Nat × Path) := waysFrom p but n.paths 0
def wayRow (x : Nat × Path) : List DV := [.i x.1, .agg x.2.row]
end Go.Ab
namespace Go.Ab
open Go.RowKit Go.Proofs
def filled (c : Int) (m i : Nat) : List (List DV) := List.replicate i [.i c] ++ List.replicate (m - i) [.i 0]
end Go.Ab
namespace Go.Ab
open Go.RowKit Go.Proofs
structure Net.Ok (n : Net) : Prop where
  places : 0 ≤ n.places ∧ n.places < 2 ^ 20
  paths : n.paths.length < 2 ^ 20
  frm : ∀ x ∈ n.paths, 0 ≤ x.frm ∧ x.frm < n.places
  to : ∀ x ∈ n.paths, 0 ≤ x.to ∧ x.to < n.places
  opens : ∀ x ∈ n.paths, x.opens.length < 2 ^ 20
def relaxD (p : Party) (a : List Int × Bool) (w : Nat × Path) : List Int × Bool :=
  let t := latestF w.2.opens (wr (getI a.1 w.2.to - (spanW w.2 p).hi))
  if t > getI a.1 w.2.frm then (a.1.set w.2.frm.toNat t, true) else a
def passD (n : Net) (p : Party) (l : List Int) : List Int × Bool := (waysL n p (-1)).foldl (relaxD p) (l, false)
end Go.Ab
namespace Go.Ab
open Go.RowKit Go.Proofs
def riseM (l : List Int) : Nat := (l.map fun x => (2881 - x).toNat).sum
def fixD (n : Net) (p : Party) : Nat → List Int → List Int
  | 0, l => l
  | k + 1, l => if (passD n p l).2 then fixD n p k (passD n p l).1 else (passD n p l).1
def deadlines0 (n : Net) (to b : Int) : List Int := (List.replicate n.places.toNat (-1)).set to.toNat b
def deadlinesL (n : Net) (p : Party) (to b : Int) : List Int := fixD n p (riseM (deadlines0 n to b) + 1) (deadlines0 n to b)
end Go.Ab
namespace Go.Ab
open Go.RowKit Go.Proofs
attribute [local irreducible] WalkL Walk
end Go.Ab
namespace Go.Ab
open Go.RowKit Go.Proofs
attribute [local irreducible] WalkL Walk
def never : Int := 1073741824
def relaxA (p : Party) (q : Span → Int) (a : List Int × Bool) (w : Nat × Path) : List Int × Bool :=
  if getI a.1 w.2.frm = never then a else
    let t := arriveF w.2.opens (getI a.1 w.2.frm) (q (spanW w.2 p))
    if t < getI a.1 w.2.to then (a.1.set w.2.to.toNat t, true) else a
def passA (n : Net) (p : Party) (q : Span → Int) (but : Int) (l : List Int) : List Int × Bool := (waysL n p but).foldl (relaxA p q) (l, false)
def fallM (l : List Int) : Nat := (l.map fun x => (x + 9223372036854775809).toNat).sum
def fixA (n : Net) (p : Party) (q : Span → Int) (but : Int) : Nat → List Int → List Int
  | 0, l => l
  | k + 1, l => if (passA n p q but l).2 then fixA n p q but k (passA n p q but l).1 else (passA n p q but l).1
def arrivals0 (n : Net) (frm start : Int) : List Int := (List.replicate n.places.toNat never).set frm.toNat start
def arrivalsL (n : Net) (p : Party) (q : Span → Int) (frm start but : Int) : List Int := fixA n p q but (fallM (arrivals0 n frm start) + 1) (arrivals0 n frm start)
end Go.Ab
namespace Go.Ab
open Go.RowKit Go.Proofs
attribute [local irreducible] WalkL Walk
end Go.Ab
namespace Go.Ab
open Go.RowKit Go.Proofs
attribute [local irreducible] WalkL Walk
def told1 (t : Int) : Int := if t = never then -1 else t
theorem set_same {α : Type} {l : List α} {i : Nat} {x : α} (h : l[i]? = some x) : l.set i x = l := by
  apply List.ext_getElem?
  intro k
  rw [List.getElem?_set]
  split
  · rename_i e; subst e; rw [if_pos (List.getElem?_eq_some_iff.1 h).1, h]
  · rfl
end Go.Ab
namespace Go.Ab
open Go.RowKit Go.Proofs
attribute [local irreducible] WalkL Walk
structure Net.Small (n : Net) : Prop where
  paths : n.paths.length < 2 ^ 30
  opens : ∀ x ∈ n.paths, x.opens.length < 2 ^ 30
def wrong1 (n : Net) (x : Path) : Bool :=
  !withinB x.frm 0 (n.places - 1) || (!withinB x.to 0 (n.places - 1) || (x.frm == x.to || (!withinB x.grade 1 6 || (!orderedB x.time 1 600 || (!orderedB x.snow 0 30 || decide ((x.opens.length : Int) > 6))))))
def wrongB (n : Net) (x : Path) : Bool := wrong1 n x || x.opens.any (fun s => !orderedB s 0 2880)
theorem f136 (n : Net) (x : Path) (hn : 0 ≤ n.places ∧ n.places < 2 ^ 62) (hl : x.opens.length < 2 ^ 30) :
    Fn Tryz.prog 136 [.agg x.row, .ptr [.fn 133 [.ptr n.cells 0]] 0, .ptr [.fn 134 []] 0] (.bool (wrongB n x)) := by
  refine fn_walk 54 Tryz.call136 Tryz.func136 rfl (by decide) fun J => ?_
  simp (maxSteps := 4000000) only [go_sem, St.start, Tryz.ntmps136, Tryz.results136, Path.row, Net.cells]
  have h66 := fun s (_ : s ∈ x.opens) => f134 s (.i 0)
  repeat (first | refine walkL_seq ?_ | refine walkL_skip ?_ | refine walkL_block ?_ | (refine walkL_region fun K hK => ?_; simp (maxSteps := 4000000) only [go_sem]; refine hK _ ?_; clear hK K) | refine walkL_nil ?_ | refine walkL_ret ?_ | refine walkL_exit ?_ | refine blockA_here ?_ | refine blockA_other rfl ?_ | refine blockA_ret ?_ | refine blockA_normal ?_ | refine thenA_ret ?_ | refine thenA_exit ?_ | refine thenA_normal ?_)
  refine walkL_meetS [(4, .d (.bool (wrongB n x)))] [] ?_ ?_
  · refine walkL_region fun K hK => ?_
    simp (maxSteps := 4000000) only [go_sem]
    refine ⟨_, .lent (hf := f133 n x.frm hn) (hd := rfl) (hr := rfl), ?_⟩
    simp (maxSteps := 4000000) only [go_sem]
    by_cases ho0 : (!withinB x.frm 0 (n.places - 1)) = true
    · simp (maxSteps := 4000000) only [go_sem, ho0]
      refine hK _ ?_
      clear hK K
      refine walkL_nil ?_
      refine thenA_normal ?_
      refine ⟨rfl, ?_⟩
      rw [show (wrongB n x) = (true) from by simp [wrongB, wrong1, ho0]]
      simp (maxSteps := 4000000) only [go_sem]
      refine weak_of [] ?_ ?_ rfl rfl <;> simp [lessT, lessM, lessB, AV.less]
    · simp (maxSteps := 4000000) only [go_sem, ho0]
      refine ⟨_, .lent (hf := f133 n x.to hn) (hd := rfl) (hr := rfl), ?_⟩
      simp (maxSteps := 4000000) only [go_sem, ho0]
      by_cases ho1 : (!withinB x.to 0 (n.places - 1)) = true
      · simp (maxSteps := 4000000) only [go_sem, ho0, ho1]
        refine hK _ ?_
        clear hK K
        refine walkL_nil ?_
        refine thenA_normal ?_
        refine ⟨rfl, ?_⟩
        rw [show (wrongB n x) = (true) from by simp [wrongB, wrong1, ho0, ho1]]
        simp (maxSteps := 4000000) only [go_sem]
        refine weak_of [] ?_ ?_ rfl rfl <;> simp [lessT, lessM, lessB, AV.less]
      · simp (maxSteps := 4000000) only [go_sem, ho0, ho1]
        by_cases ho2 : (x.frm == x.to) = true
        · simp (maxSteps := 4000000) only [go_sem, ho0, ho1, ho2]
          refine hK _ ?_
          clear hK K
          refine walkL_nil ?_
          refine thenA_normal ?_
          refine ⟨rfl, ?_⟩
          rw [show (wrongB n x) = (true) from by simp [wrongB, wrong1, ho0, ho1, ho2]]
          simp (maxSteps := 4000000) only [go_sem]
          refine weak_of [] ?_ ?_ rfl rfl <;> simp [lessT, lessM, lessB, AV.less]
        · simp (maxSteps := 4000000) only [go_sem, ho0, ho1, ho2]
          refine ⟨_, .lent (hf := f123 x.grade 1 6) (hd := rfl) (hr := rfl), ?_⟩
          simp (maxSteps := 4000000) only [go_sem, ho0, ho1, ho2]
          by_cases ho3 : (!withinB x.grade 1 6) = true
          · simp (maxSteps := 4000000) only [go_sem, ho0, ho1, ho2, ho3]
            refine hK _ ?_
            clear hK K
            refine walkL_nil ?_
            refine thenA_normal ?_
            refine ⟨rfl, ?_⟩
            rw [show (wrongB n x) = (true) from by simp [wrongB, wrong1, ho0, ho1, ho2, ho3]]
            simp (maxSteps := 4000000) only [go_sem]
            refine weak_of [] ?_ ?_ rfl rfl <;> simp [lessT, lessM, lessB, AV.less]
          · simp (maxSteps := 4000000) only [go_sem, ho0, ho1, ho2, ho3]
            refine ⟨_, .lent (hf := f135 x.time 1 600) (hd := rfl) (hr := rfl), ?_⟩
            simp (maxSteps := 4000000) only [go_sem, ho0, ho1, ho2, ho3]
            by_cases ho4 : (!orderedB x.time 1 600) = true
            · simp (maxSteps := 4000000) only [go_sem, ho0, ho1, ho2, ho3, ho4]
              refine hK _ ?_
              clear hK K
              refine walkL_nil ?_
              refine thenA_normal ?_
              refine ⟨rfl, ?_⟩
              rw [show (wrongB n x) = (true) from by simp [wrongB, wrong1, ho0, ho1, ho2, ho3, ho4]]
              simp (maxSteps := 4000000) only [go_sem]
              refine weak_of [] ?_ ?_ rfl rfl <;> simp [lessT, lessM, lessB, AV.less]
            · simp (maxSteps := 4000000) only [go_sem, ho0, ho1, ho2, ho3, ho4]
              refine ⟨_, .lent (hf := f135 x.snow 0 30) (hd := rfl) (hr := rfl), ?_⟩
              simp (maxSteps := 4000000) only [go_sem, ho0, ho1, ho2, ho3, ho4]
              by_cases ho5 : (!orderedB x.snow 0 30) = true
              · simp (maxSteps := 4000000) only [go_sem, ho0, ho1, ho2, ho3, ho4, ho5]
                refine hK _ ?_
                clear hK K
                refine walkL_nil ?_
                refine thenA_normal ?_
                refine ⟨rfl, ?_⟩
                rw [show (wrongB n x) = (true) from by simp [wrongB, wrong1, ho0, ho1, ho2, ho3, ho4, ho5]]
                simp (maxSteps := 4000000) only [go_sem]
                refine weak_of [] ?_ ?_ rfl rfl <;> simp [lessT, lessM, lessB, AV.less]
              · simp (maxSteps := 4000000) only [go_sem, ho0, ho1, ho2, ho3, ho4, ho5]
                by_cases ho6 : (decide ((x.opens.length : Int) > 6)) = true
                · simp (maxSteps := 4000000) only [go_sem, ho0, ho1, ho2, ho3, ho4, ho5, ho6]
                  refine hK _ ?_
                  clear hK K
                  refine walkL_nil ?_
                  refine thenA_normal ?_
                  refine ⟨rfl, ?_⟩
                  rw [show (wrongB n x) = (true) from by simp [wrongB, wrong1, ho0, ho1, ho2, ho3, ho4, ho5, ho6]]
                  simp (maxSteps := 4000000) only [go_sem]
                  refine weak_of [] ?_ ?_ rfl rfl <;> simp [lessT, lessM, lessB, AV.less]
                · simp (maxSteps := 4000000) only [go_sem, ho0, ho1, ho2, ho3, ho4, ho5, ho6]
                  refine ⟨_, .lent (hf := f99 x.opens 134 [] _ h66 (by omega)) (hd := rfl) (hr := rfl), ?_⟩
                  simp (maxSteps := 4000000) only [go_sem, ho0, ho1, ho2, ho3, ho4, ho5, ho6]
                  refine hK _ ?_
                  clear hK K
                  refine walkL_nil ?_
                  refine thenA_normal ?_
                  refine ⟨rfl, ?_⟩
                  rw [show (wrongB n x) = (x.opens.any (fun s => !orderedB s 0 2880)) from by simp [wrongB, wrong1, ho0, ho1, ho2, ho3, ho4, ho5, ho6]]
                  simp (maxSteps := 4000000) only [go_sem]
                  refine weak_of [] ?_ ?_ rfl rfl <;> simp [lessT, lessM, lessB, AV.less]
  · simp (maxSteps := 4000000) only [go_sem]
    repeat (first | refine walkL_seq ?_ | refine walkL_skip ?_ | refine walkL_block ?_ | (refine walkL_region fun K hK => ?_; simp (maxSteps := 4000000) only [go_sem]; refine hK _ ?_; clear hK K) | refine walkL_nil ?_ | refine walkL_ret ?_ | refine walkL_exit ?_ | refine blockA_here ?_ | refine blockA_other rfl ?_ | refine blockA_ret ?_ | refine blockA_normal ?_ | refine thenA_ret ?_ | refine thenA_exit ?_ | refine thenA_normal ?_)
    simp (maxSteps := 4000000) only [go_sem]
def badNet (n : Net) : Bool := !withinB n.places 1 12 || (decide ((n.paths.length : Int) > 24) || n.paths.any (wrongB n))
def checkF (n : Net) : Int := if badNet n then 10 else 0
theorem f86 (n : Net) (hs : n.Small) : Fn Tryz.prog 86 [.agg n.cells] (.i (checkF n)) := by
  refine fn_walk 24 Tryz.call86 Tryz.func86 rfl (by decide) fun J => ?_
  simp (maxSteps := 4000000) only [go_sem, St.start, Tryz.ntmps86, Tryz.results86, Net.cells]
  have h68 : withinB n.places 1 12 = true → ∀ x ∈ n.paths, Fn Tryz.prog 136 [.agg x.row, .ptr [.fn 133 [.ptr n.cells 0]] 0, .ptr [.fn 134 []] 0] (.bool (wrongB n x)) := fun h x hx =>
    f136 n x (by have := within_iff.1 h; omega) (hs.opens x hx)
  have h70 := fun h => f137 n.paths 136 [.ptr [.fn 133 [.ptr n.cells 0]] 0, .ptr [.fn 134 []] 0] (wrongB n) (h68 h) (Nat.lt_trans hs.paths (by decide))
  repeat (first | refine walkL_seq ?_ | refine walkL_skip ?_ | refine walkL_block ?_ | (refine walkL_region fun K hK => ?_; simp (maxSteps := 4000000) only [go_sem]; refine hK _ ?_; clear hK K) | refine walkL_nil ?_ | refine walkL_ret ?_ | refine walkL_exit ?_ | refine blockA_here ?_ | refine blockA_other rfl ?_ | refine blockA_ret ?_ | refine blockA_normal ?_ | refine thenA_ret ?_ | refine thenA_exit ?_ | refine thenA_normal ?_)
  refine walkL_meetS [(23, .d (.bool (badNet n)))] [] ?_ ?_
  · refine walkL_region fun K hK => ?_
    simp (maxSteps := 4000000) only [go_sem]
    refine ⟨_, .lent (hf := f123 n.places 1 12) (hd := rfl) (hr := rfl), ?_⟩
    simp (maxSteps := 4000000) only [go_sem]
    by_cases ho0 : (!withinB n.places 1 12) = true
    · simp (maxSteps := 4000000) only [go_sem, ho0]
      refine hK _ ?_
      clear hK K
      refine walkL_nil ?_
      refine thenA_normal ?_
      refine ⟨rfl, ?_⟩
      rw [show (badNet n) = (true) from by simp [badNet, ho0]]
      simp (maxSteps := 4000000) only [go_sem]
      refine weak_of [] ?_ ?_ rfl rfl <;> simp [lessT, lessM, lessB, AV.less]
    · simp (maxSteps := 4000000) only [go_sem, ho0]
      by_cases ho1 : (decide ((n.paths.length : Int) > 24)) = true
      · simp (maxSteps := 4000000) only [go_sem, ho0, ho1]
        refine hK _ ?_
        clear hK K
        refine walkL_nil ?_
        refine thenA_normal ?_
        refine ⟨rfl, ?_⟩
        rw [show (badNet n) = (true) from by simp [badNet, ho0, ho1]]
        simp (maxSteps := 4000000) only [go_sem]
        refine weak_of [] ?_ ?_ rfl rfl <;> simp [lessT, lessM, lessB, AV.less]
      · simp (maxSteps := 4000000) only [go_sem, ho0, ho1]
        refine ⟨_, .lent (hf := h70 (by simpa using ho0)) (hd := rfl) (hr := rfl), ?_⟩
        simp (maxSteps := 4000000) only [go_sem, ho0, ho1]
        refine hK _ ?_
        clear hK K
        refine walkL_nil ?_
        refine thenA_normal ?_
        refine ⟨rfl, ?_⟩
        rw [show (badNet n) = (n.paths.any (wrongB n)) from by simp [badNet, ho0, ho1]]
        simp (maxSteps := 4000000) only [go_sem]
        refine weak_of [] ?_ ?_ rfl rfl <;> simp [lessT, lessM, lessB, AV.less]
  · simp (maxSteps := 4000000) only [go_sem]
    repeat (first | refine walkL_seq ?_ | refine walkL_skip ?_ | refine walkL_block ?_ | (refine walkL_region fun K hK => ?_; simp (maxSteps := 4000000) only [go_sem]; refine hK _ ?_; clear hK K) | refine walkL_nil ?_ | refine walkL_ret ?_ | refine walkL_exit ?_ | refine blockA_here ?_ | refine blockA_other rfl ?_ | refine blockA_ret ?_ | refine blockA_normal ?_ | refine thenA_ret ?_ | refine thenA_exit ?_ | refine thenA_normal ?_)
    refine walkL_cond rfl (fun hc => ?_) (fun hc => ?_)
    · repeat (first | refine walkL_seq ?_ | refine walkL_skip ?_ | refine walkL_block ?_ | (refine walkL_region fun K hK => ?_; simp (maxSteps := 4000000) only [go_sem]; refine hK _ ?_; clear hK K) | refine walkL_nil ?_ | refine walkL_ret ?_ | refine walkL_exit ?_ | refine blockA_here ?_ | refine blockA_other rfl ?_ | refine blockA_ret ?_ | refine blockA_normal ?_ | refine thenA_ret ?_ | refine thenA_exit ?_ | refine thenA_normal ?_)
      simp (maxSteps := 4000000) only [go_sem, checkF, hc]
    · repeat (first | refine walkL_seq ?_ | refine walkL_skip ?_ | refine walkL_block ?_ | (refine walkL_region fun K hK => ?_; simp (maxSteps := 4000000) only [go_sem]; refine hK _ ?_; clear hK K) | refine walkL_nil ?_ | refine walkL_ret ?_ | refine walkL_exit ?_ | refine blockA_here ?_ | refine blockA_other rfl ?_ | refine blockA_ret ?_ | refine blockA_normal ?_ | refine thenA_ret ?_ | refine thenA_exit ?_ | refine thenA_normal ?_)
      simp (maxSteps := 4000000) only [go_sem, checkF, hc]
end Go.Ab
namespace Go.Ab
open Go.RowKit Go.Proofs
set_option maxHeartbeats 4000000
attribute [local irreducible] WalkL Walk
theorem f42 (n : Net) (hs : n.Small) : Fn Tryz.prog 42 [.agg n.cells] (.i (checkF n)) := by
  refine fn_walk 85 Tryz.call42 Tryz.func42 rfl (by decide) fun J => ?_
  simp (maxSteps := 4000000) only [go_sem, St.start, Tryz.ntmps42, Tryz.results42, Net.cells]
  repeat (first | refine walkL_seq ?_ | refine walkL_skip ?_ | refine walkL_block ?_ | (refine walkL_region fun K hK => ?_; simp (maxSteps := 4000000) only [go_sem]; refine hK _ ?_; clear hK K) | refine walkL_nil ?_ | refine walkL_ret ?_ | refine walkL_exit ?_ | refine blockA_here ?_ | refine blockA_other rfl ?_ | refine blockA_ret ?_ | refine blockA_normal ?_ | refine thenA_ret ?_ | refine thenA_exit ?_ | refine thenA_normal ?_)
  refine walkL_meetS [(15, .d (.bool (!withinB n.places 1 12 || decide ((n.paths.length : Int) > 24))))] [] ?_ ?_
  · refine walkL_region fun K hK => ?_
    simp (maxSteps := 4000000) only [go_sem]
    refine ⟨_, .lent (hf := f75 n.places 1 12) (hd := rfl) (hr := rfl), ?_⟩
    simp (maxSteps := 4000000) only [go_sem]
    by_cases ho0 : (!withinB n.places 1 12) = true
    · simp (maxSteps := 4000000) only [go_sem, ho0]
      refine hK _ ?_
      clear hK K
      refine walkL_nil ?_
      refine thenA_normal ?_
      refine ⟨rfl, ?_⟩
      rw [show (!withinB n.places 1 12 || decide ((n.paths.length : Int) > 24)) = (true) from by simp [ho0]]
      simp (maxSteps := 4000000) only [go_sem]
      refine weak_of [] ?_ ?_ rfl rfl <;> simp [lessT, lessM, lessB, AV.less]
    · simp (maxSteps := 4000000) only [go_sem, ho0]
      refine hK _ ?_
      clear hK K
      refine walkL_nil ?_
      refine thenA_normal ?_
      refine ⟨rfl, ?_⟩
      rw [show (!withinB n.places 1 12 || decide ((n.paths.length : Int) > 24)) = (decide ((n.paths.length : Int) > 24)) from by simp [ho0]]
      simp (maxSteps := 4000000) only [go_sem]
      refine weak_of [] ?_ ?_ rfl rfl <;> simp [lessT, lessM, lessB, AV.less]
  simp (maxSteps := 4000000) only [go_sem]
  refine walkL_cond rfl (fun hc => ?_) (fun hc => ?_)
  · repeat (first | refine walkL_seq ?_ | refine walkL_skip ?_ | refine walkL_block ?_ | (refine walkL_region fun K hK => ?_; simp (maxSteps := 4000000) only [go_sem]; refine hK _ ?_; clear hK K) | refine walkL_nil ?_ | refine walkL_ret ?_ | refine walkL_exit ?_ | refine blockA_here ?_ | refine blockA_other rfl ?_ | refine blockA_ret ?_ | refine blockA_normal ?_ | refine thenA_ret ?_ | refine thenA_exit ?_ | refine thenA_normal ?_)
    have hb : badNet n = true := by unfold badNet; rw [← Bool.or_assoc, hc]; rfl
    simp (maxSteps := 4000000) only [go_sem, checkF, hb]
  · rw [Bool.or_eq_false_iff] at hc
    have hpl := within_iff.1 (show withinB n.places 1 12 = true by simpa using hc.1)
    have hbad : badNet n = n.paths.any (wrongB n) := by unfold badNet; rw [← Bool.or_assoc, hc.1, hc.2]; rfl
    repeat (first | refine walkL_seq ?_ | refine walkL_skip ?_ | refine walkL_block ?_ | (refine walkL_region fun K hK => ?_; simp (maxSteps := 4000000) only [go_sem]; refine hK _ ?_; clear hK K) | refine walkL_nil ?_ | refine walkL_ret ?_ | refine walkL_exit ?_ | refine blockA_here ?_ | refine blockA_other rfl ?_ | refine blockA_ret ?_ | refine blockA_normal ?_ | refine thenA_ret ?_ | refine thenA_exit ?_ | refine thenA_normal ?_)
    refine walkL_loopS (fun (i : Nat) => [(3, .d (.i i))]) (fun _ => []) (fun i => i ≤ n.paths.length ∧ (n.paths.take i).any (wrongB n) = false) (fun i => n.paths.length - i) 0 ?_ ⟨Nat.zero_le _, rfl⟩ ?_
    · simp (maxSteps := 4000000) only [go_sem]
      refine weak_of [] ?_ ?_ rfl rfl <;> simp [lessT, lessM, lessB, AV.less]
    · intro i ⟨hi, hall⟩
      have hbound := hs.paths
      simp (maxSteps := 4000000) only [go_sem]
      repeat (first | refine walkL_seq ?_ | refine walkL_skip ?_ | refine walkL_block ?_ | (refine walkL_region fun K hK => ?_; simp (maxSteps := 4000000) only [go_sem]; refine hK _ ?_; clear hK K) | refine walkL_nil ?_ | refine walkL_ret ?_ | refine walkL_exit ?_ | refine blockA_here ?_ | refine blockA_other rfl ?_ | refine blockA_ret ?_ | refine blockA_normal ?_ | refine thenA_ret ?_ | refine thenA_exit ?_ | refine thenA_normal ?_)
      refine walkL_cond rfl (fun hb => ?_) (fun hb => ?_)
      · have hlt : i < n.paths.length := by simpa using hb
        have hw : IntKind.i64.wrap ((i : Int) + 1) = ((i + 1 : Nat) : Int) := by rw [wr_small (by omega)]; simp
        obtain ⟨x, hx⟩ : ∃ x, n.paths[i]? = some x := ⟨_, List.getElem?_eq_getElem hlt⟩
        have hxo := hs.opens x (List.mem_of_getElem? hx)
        have hp62 : -(2 ^ 62) ≤ n.places ∧ n.places < 2 ^ 62 := by omega
        repeat (first | refine walkL_seq ?_ | refine walkL_skip ?_ | refine walkL_block ?_ | (refine walkL_region fun K hK => ?_; simp (maxSteps := 4000000) only [go_sem, hx, List.getElem?_map, Path.row]; refine hK _ ?_; clear hK K) | refine walkL_nil ?_ | refine walkL_ret ?_ | refine walkL_exit ?_ | refine blockA_here ?_ | refine blockA_other rfl ?_ | refine blockA_ret ?_ | refine blockA_normal ?_ | refine thenA_ret ?_ | refine thenA_exit ?_ | refine thenA_normal ?_)
        refine walkL_meetS [(70, .d (.bool (wrong1 n x)))] [] ?_ ?_
        · refine walkL_region fun K hK => ?_
          simp (maxSteps := 4000000) only [go_sem]
          refine ⟨_, .lent (hf := f32 n x.frm hp62) (hd := rfl) (hr := rfl), ?_⟩
          simp (maxSteps := 4000000) only [go_sem]
          by_cases ho0 : (!withinB x.frm 0 (n.places - 1)) = true
          · simp (maxSteps := 4000000) only [go_sem, ho0]
            refine hK _ ?_
            clear hK K
            refine walkL_nil ?_
            refine thenA_normal ?_
            refine ⟨rfl, ?_⟩
            rw [show (wrong1 n x) = (true) from by simp [wrong1, ho0]]
            simp (maxSteps := 4000000) only [go_sem]
            refine weak_of [] ?_ ?_ rfl rfl <;> simp [lessT, lessM, lessB, AV.less]
          · simp (maxSteps := 4000000) only [go_sem, ho0]
            refine ⟨_, .lent (hf := f32 n x.to hp62) (hd := rfl) (hr := rfl), ?_⟩
            simp (maxSteps := 4000000) only [go_sem, ho0]
            by_cases ho1 : (!withinB x.to 0 (n.places - 1)) = true
            · simp (maxSteps := 4000000) only [go_sem, ho0, ho1]
              refine hK _ ?_
              clear hK K
              refine walkL_nil ?_
              refine thenA_normal ?_
              refine ⟨rfl, ?_⟩
              rw [show (wrong1 n x) = (true) from by simp [wrong1, ho0, ho1]]
              simp (maxSteps := 4000000) only [go_sem]
              refine weak_of [] ?_ ?_ rfl rfl <;> simp [lessT, lessM, lessB, AV.less]
            · simp (maxSteps := 4000000) only [go_sem, ho0, ho1]
              by_cases ho2 : (x.frm == x.to) = true
              · simp (maxSteps := 4000000) only [go_sem, ho0, ho1, ho2]
                refine hK _ ?_
                clear hK K
                refine walkL_nil ?_
                refine thenA_normal ?_
                refine ⟨rfl, ?_⟩
                rw [show (wrong1 n x) = (true) from by simp [wrong1, ho0, ho1, ho2]]
                simp (maxSteps := 4000000) only [go_sem]
                refine weak_of [] ?_ ?_ rfl rfl <;> simp [lessT, lessM, lessB, AV.less]
              · simp (maxSteps := 4000000) only [go_sem, ho0, ho1, ho2]
                refine ⟨_, .lent (hf := f75 x.grade 1 6) (hd := rfl) (hr := rfl), ?_⟩
                simp (maxSteps := 4000000) only [go_sem, ho0, ho1, ho2]
                by_cases ho3 : (!withinB x.grade 1 6) = true
                · simp (maxSteps := 4000000) only [go_sem, ho0, ho1, ho2, ho3]
                  refine hK _ ?_
                  clear hK K
                  refine walkL_nil ?_
                  refine thenA_normal ?_
                  refine ⟨rfl, ?_⟩
                  rw [show (wrong1 n x) = (true) from by simp [wrong1, ho0, ho1, ho2, ho3]]
                  simp (maxSteps := 4000000) only [go_sem]
                  refine weak_of [] ?_ ?_ rfl rfl <;> simp [lessT, lessM, lessB, AV.less]
                · simp (maxSteps := 4000000) only [go_sem, ho0, ho1, ho2, ho3]
                  refine ⟨_, .lent (hf := f76 x.time 1 600) (hd := rfl) (hr := rfl), ?_⟩
                  simp (maxSteps := 4000000) only [go_sem, ho0, ho1, ho2, ho3]
                  by_cases ho4 : (!orderedB x.time 1 600) = true
                  · simp (maxSteps := 4000000) only [go_sem, ho0, ho1, ho2, ho3, ho4]
                    refine hK _ ?_
                    clear hK K
                    refine walkL_nil ?_
                    refine thenA_normal ?_
                    refine ⟨rfl, ?_⟩
                    rw [show (wrong1 n x) = (true) from by simp [wrong1, ho0, ho1, ho2, ho3, ho4]]
                    simp (maxSteps := 4000000) only [go_sem]
                    refine weak_of [] ?_ ?_ rfl rfl <;> simp [lessT, lessM, lessB, AV.less]
                  · simp (maxSteps := 4000000) only [go_sem, ho0, ho1, ho2, ho3, ho4]
                    refine ⟨_, .lent (hf := f76 x.snow 0 30) (hd := rfl) (hr := rfl), ?_⟩
                    simp (maxSteps := 4000000) only [go_sem, ho0, ho1, ho2, ho3, ho4]
                    by_cases ho5 : (!orderedB x.snow 0 30) = true
                    · simp (maxSteps := 4000000) only [go_sem, ho0, ho1, ho2, ho3, ho4, ho5]
                      refine hK _ ?_
                      clear hK K
                      refine walkL_nil ?_
                      refine thenA_normal ?_
                      refine ⟨rfl, ?_⟩
                      rw [show (wrong1 n x) = (true) from by simp [wrong1, ho0, ho1, ho2, ho3, ho4, ho5]]
                      simp (maxSteps := 4000000) only [go_sem]
                      refine weak_of [] ?_ ?_ rfl rfl <;> simp [lessT, lessM, lessB, AV.less]
                    · simp (maxSteps := 4000000) only [go_sem, ho0, ho1, ho2, ho3, ho4, ho5]
                      refine hK _ ?_
                      clear hK K
                      refine walkL_nil ?_
                      refine thenA_normal ?_
                      refine ⟨rfl, ?_⟩
                      rw [show (wrong1 n x) = (decide ((x.opens.length : Int) > 6)) from by simp [wrong1, ho0, ho1, ho2, ho3, ho4, ho5]]
                      simp (maxSteps := 4000000) only [go_sem]
                      refine weak_of [] ?_ ?_ rfl rfl <;> simp [lessT, lessM, lessB, AV.less]
        simp (maxSteps := 4000000) only [go_sem]
        refine walkL_cond rfl (fun hc1 => ?_) (fun hc1 => ?_)
        · repeat (first | refine walkL_seq ?_ | refine walkL_skip ?_ | refine walkL_block ?_ | (refine walkL_region fun K hK => ?_; simp (maxSteps := 4000000) only [go_sem]; refine hK _ ?_; clear hK K) | refine walkL_nil ?_ | refine walkL_ret ?_ | refine walkL_exit ?_ | refine blockA_here ?_ | refine blockA_other rfl ?_ | refine blockA_ret ?_ | refine blockA_normal ?_ | refine thenA_ret ?_ | refine thenA_exit ?_ | refine thenA_normal ?_)
          have hb : badNet n = true := by rw [hbad]; exact any_of_get hx (by unfold wrongB; rw [hc1]; rfl)
          simp (maxSteps := 4000000) only [go_sem, checkF, hb]
        · repeat (first | refine walkL_seq ?_ | refine walkL_skip ?_ | refine walkL_block ?_ | (refine walkL_region fun K hK => ?_; simp (maxSteps := 4000000) only [go_sem]; refine hK _ ?_; clear hK K) | refine walkL_nil ?_ | refine walkL_ret ?_ | refine walkL_exit ?_ | refine blockA_here ?_ | refine blockA_other rfl ?_ | refine blockA_ret ?_ | refine blockA_normal ?_ | refine thenA_ret ?_ | refine thenA_exit ?_ | refine thenA_normal ?_)
          refine walkL_loopS (fun (k : Nat) => [(5, .d (.i k))]) (fun _ => []) (fun k => k ≤ x.opens.length ∧ (x.opens.take k).any (fun s => !orderedB s 0 2880) = false) (fun k => x.opens.length - k) 0 ?_ ⟨Nat.zero_le _, rfl⟩ ?_
          · simp (maxSteps := 4000000) only [go_sem]
            refine weak_of [] ?_ ?_ rfl rfl <;> simp [lessT, lessM, lessB, AV.less]
          · intro k ⟨hk, hkall⟩
            simp (maxSteps := 4000000) only [go_sem]
            repeat (first | refine walkL_seq ?_ | refine walkL_skip ?_ | refine walkL_block ?_ | (refine walkL_region fun K hK => ?_; simp (maxSteps := 4000000) only [go_sem]; refine hK _ ?_; clear hK K) | refine walkL_nil ?_ | refine walkL_ret ?_ | refine walkL_exit ?_ | refine blockA_here ?_ | refine blockA_other rfl ?_ | refine blockA_ret ?_ | refine blockA_normal ?_ | refine thenA_ret ?_ | refine thenA_exit ?_ | refine thenA_normal ?_)
            refine walkL_cond rfl (fun hb => ?_) (fun hb => ?_)
            · have hlk : k < x.opens.length := by simpa using hb
              have hwk : IntKind.i64.wrap ((k : Int) + 1) = ((k + 1 : Nat) : Int) := by rw [wr_small (by omega)]; simp
              obtain ⟨s, hs1⟩ : ∃ s, x.opens[k]? = some s := ⟨_, List.getElem?_eq_getElem hlk⟩
              repeat (first | refine walkL_seq ?_ | refine walkL_skip ?_ | refine walkL_block ?_ | (refine walkL_region fun K hK => ?_; simp (maxSteps := 4000000) only [go_sem, hs1, List.getElem?_map, Span.row]; (repeat (first | (refine ⟨_, .lent (hf := f76 s 0 2880) (hd := rfl) (hr := rfl), ?_⟩; simp (maxSteps := 4000000) only [go_sem, hs1, List.getElem?_map, Span.row]) | (refine ⟨_, .given (hf := f76 s 0 2880) (hd := rfl) (ha := rfl), ?_⟩; simp (maxSteps := 4000000) only [go_sem, hs1, List.getElem?_map, Span.row]))); refine hK _ ?_; clear hK K) | refine walkL_nil ?_ | refine walkL_ret ?_ | refine walkL_exit ?_ | refine blockA_here ?_ | refine blockA_other rfl ?_ | refine blockA_ret ?_ | refine blockA_normal ?_ | refine thenA_ret ?_ | refine thenA_exit ?_ | refine thenA_normal ?_)
              refine walkL_cond rfl (fun hc2 => ?_) (fun hc2 => ?_)
              · repeat (first | refine walkL_seq ?_ | refine walkL_skip ?_ | refine walkL_block ?_ | (refine walkL_region fun K hK => ?_; simp (maxSteps := 4000000) only [go_sem]; refine hK _ ?_; clear hK K) | refine walkL_nil ?_ | refine walkL_ret ?_ | refine walkL_exit ?_ | refine blockA_here ?_ | refine blockA_other rfl ?_ | refine blockA_ret ?_ | refine blockA_normal ?_ | refine thenA_ret ?_ | refine thenA_exit ?_ | refine thenA_normal ?_)
                have hb : badNet n = true := by rw [hbad]; exact any_of_get hx (by unfold wrongB; rw [any_of_get hs1 hc2]; simp)
                simp (maxSteps := 4000000) only [go_sem, checkF, hb]
              · repeat (first | refine walkL_seq ?_ | refine walkL_skip ?_ | refine walkL_block ?_ | (refine walkL_region fun K hK => ?_; simp (maxSteps := 4000000) only [go_sem, hwk]; refine hK _ ?_; clear hK K) | refine walkL_nil ?_ | refine walkL_ret ?_ | refine walkL_exit ?_ | refine blockA_here ?_ | refine blockA_other rfl ?_ | refine blockA_ret ?_ | refine blockA_normal ?_ | refine thenA_ret ?_ | refine thenA_exit ?_ | refine thenA_normal ?_)
                refine ⟨rfl, k + 1, ?_, ⟨hlk, any_take_succ hs1 hkall hc2⟩, by omega⟩
                refine weak_of [] ?_ ?_ rfl rfl <;> simp [lessT, lessM, lessB, AV.less]
            · have he : k = x.opens.length := by (have : ¬ k < x.opens.length := by simpa using hb); omega
              subst he
              rw [List.take_length] at hkall
              repeat (first | refine walkL_seq ?_ | refine walkL_skip ?_ | refine walkL_block ?_ | (refine walkL_region fun K hK => ?_; simp (maxSteps := 4000000) only [go_sem, hw]; refine hK _ ?_; clear hK K) | refine walkL_nil ?_ | refine walkL_ret ?_ | refine walkL_exit ?_ | refine blockA_here ?_ | refine blockA_other rfl ?_ | refine blockA_ret ?_ | refine blockA_normal ?_ | refine thenA_ret ?_ | refine thenA_exit ?_ | refine thenA_normal ?_)
              refine ⟨rfl, i + 1, ?_, ⟨hlt, any_take_succ hx hall (by unfold wrongB; rw [hc1, hkall]; rfl)⟩, by omega⟩
              refine weak_of [] ?_ ?_ rfl rfl <;> simp [lessT, lessM, lessB, AV.less]
      · have he : i = n.paths.length := by (have : ¬ i < n.paths.length := by simpa using hb); omega
        subst he
        rw [List.take_length] at hall
        repeat (first | refine walkL_seq ?_ | refine walkL_skip ?_ | refine walkL_block ?_ | (refine walkL_region fun K hK => ?_; simp (maxSteps := 4000000) only [go_sem]; refine hK _ ?_; clear hK K) | refine walkL_nil ?_ | refine walkL_ret ?_ | refine walkL_exit ?_ | refine blockA_here ?_ | refine blockA_other rfl ?_ | refine blockA_ret ?_ | refine blockA_normal ?_ | refine thenA_ret ?_ | refine thenA_exit ?_ | refine thenA_normal ?_)
        have hb : badNet n = false := by rw [hbad, hall]
        simp (maxSteps := 4000000) only [go_sem, checkF, hb]
end Go.Ab
namespace Go.Ab
open Go.RowKit Go.Proofs
set_option maxHeartbeats 4000000
attribute [local irreducible] WalkL Walk
def badParty (p : Party) : Bool := !withinB p.grade 1 6 || (!orderedB p.pace 50 300 || !withinB p.load 0 40)
def checkPartyF (n : Net) (p : Party) : Int := if badNet n then 10 else if badParty p then 11 else 0
def badAsk (n : Net) (places minutes : List Int) : Bool := places.any (fun x => !withinB x 0 (n.places - 1)) || minutes.any (fun x => !withinB x 0 2880)
def openF (n : Net) (p : Party) (places minutes : List Int) : Int := if badNet n then 10 else if badParty p then 11 else if badAsk n places minutes then 1 else 0
end Go.Ab
namespace Go.Ab
open Go.RowKit Go.Proofs
set_option maxHeartbeats 4000000
set_option maxRecDepth 20000
attribute [local irreducible] WalkL Walk
def iterL {α : Type} (f : α → α) : Nat → α → α
  | 0, a => a
  | k + 1, a => f (iterL f k a)
def relaxB (p : Party) (but : Int) (l : List Int) (w : Path × Nat) : Bool := ((w.2 : Int) != but) && (decide (w.1.grade ≤ p.grade) && decide (getI l w.1.frm < 1073741824))
def relaxT (p : Party) (high : Bool) (but : Int) (l : List Int) (w : Path × Nat) : List Int :=
  if relaxB p but l w then l.set w.1.to.toNat (min (getI l w.1.to) (stepF w.1 p (getI l w.1.frm) high)) else l
def passT (n : Net) (p : Party) (high : Bool) (but : Int) (l : List Int) : List Int := n.paths.zipIdx.foldl (relaxT p high but) l
def tableL (n : Net) (p : Party) (frm start : Int) (high : Bool) (but : Int) : List Int := iterL (passT n p high but) n.places.toNat (arrivals0 n frm start)
end Go.Ab
namespace Go.Ab
open Go.RowKit Go.Proofs
set_option maxHeartbeats 4000000
set_option maxRecDepth 20000
attribute [local irreducible] WalkL Walk
def sureF (n : Net) (p : Party) (frm start to but : Int) : Int := getI (tableL n p frm start true but) to
def shown1 (t : Int) : Int := if t ≥ never then -1 else t
def untilL (d : Int) (l : List Int) : List Int := (l.zipIdx.filter fun x => decide (x.1 ≤ d)).map fun x => (x.2 : Int)
end Go.Ab
namespace Go.Ab
open Go.RowKit Go.Proofs
set_option maxHeartbeats 4000000
set_option maxRecDepth 20000
attribute [local irreducible] WalkL Walk
structure Path.Good (n : Net) (x : Path) : Prop where
  frm : 0 ≤ x.frm ∧ x.frm < n.places
  to : 0 ≤ x.to ∧ x.to < n.places
  ne : x.frm ≠ x.to
  grade : 1 ≤ x.grade ∧ x.grade ≤ 6
  time : 1 ≤ x.time.lo ∧ x.time.lo ≤ x.time.hi ∧ x.time.hi ≤ 600
  snow : 0 ≤ x.snow.lo ∧ x.snow.lo ≤ x.snow.hi ∧ x.snow.hi ≤ 30
  len : x.opens.length ≤ 6
  opens : ∀ s ∈ x.opens, 0 ≤ s.lo ∧ s.lo ≤ s.hi ∧ s.hi ≤ 2880
structure Net.Good (n : Net) : Prop where
  places : 1 ≤ n.places ∧ n.places ≤ 12
  paths : n.paths.length ≤ 24
  path : ∀ x ∈ n.paths, x.Good n
theorem wrong_iff {n : Net} {x : Path} : wrongB n x = false ↔ x.Good n := by
  unfold wrongB wrong1
  simp only [Bool.or_eq_false_iff, Bool.not_eq_false', within_iff, ordered_iff, beq_eq_false_iff_ne, decide_eq_false_iff_not, List.any_eq_false, Bool.not_eq_true']
  constructor
  · rintro ⟨⟨h1, h2, h3, h4, h5, h6, h7⟩, h8⟩
    exact ⟨by omega, by omega, h3, h4, h5, h6, by omega, fun s hs => ordered_iff.1 (by simpa using h8 s hs)⟩
  · rintro ⟨h1, h2, h3, h4, h5, h6, h7, h8⟩
    exact ⟨⟨by omega, by omega, h3, h4, h5, h6, by omega⟩, fun s hs => by simpa using ordered_iff.2 (h8 s hs)⟩
theorem good_iff {n : Net} : ¬ badNet n = true ↔ n.Good := by
  have e : ¬ badNet n = true ↔ badNet n = false := by simp
  rw [e]
  unfold badNet
  simp only [Bool.or_eq_false_iff, Bool.not_eq_false', within_iff, decide_eq_false_iff_not, List.any_eq_false]
  constructor
  · rintro ⟨h1, h2, h3⟩
    exact ⟨h1, by omega, fun x hx => wrong_iff.1 (by simpa using h3 x hx)⟩
  · rintro ⟨h1, h2, h3⟩
    exact ⟨h1, by omega, fun x hx => by simpa using wrong_iff.2 (h3 x hx)⟩
theorem Net.Good.ok {n : Net} (h : n.Good) : n.Ok :=
  ⟨by have := h.places; omega, by have := h.paths; omega, fun x hx => (h.path x hx).frm, fun x hx => (h.path x hx).to, fun x hx => by have := (h.path x hx).len; omega⟩
theorem Net.Good.hi {n : Net} (h : n.Good) : ∀ x ∈ n.paths, ∀ s ∈ x.opens, s.hi ≤ 2880 := fun x hx s hs => ((h.path x hx).opens s hs).2.2
structure Party.Good (p : Party) : Prop where
  grade : 1 ≤ p.grade ∧ p.grade ≤ 6
  pace : 50 ≤ p.pace.lo ∧ p.pace.lo ≤ p.pace.hi ∧ p.pace.hi ≤ 300
  load : 0 ≤ p.load ∧ p.load ≤ 40
structure Opened (n : Net) (p : Party) (places minutes : List Int) : Prop where
  net : n.Good
  party : p.Good
  place : ∀ x ∈ places, 0 ≤ x ∧ x < n.places
  minute : ∀ x ∈ minutes, 0 ≤ x ∧ x ≤ 2880
def spanHi (s : Span) : Int := s.hi
def spanLo (s : Span) : Int := s.lo
def arriveL (n : Net) (p : Party) (frm start : Int) : List Int × List Int × Int :=
  if openF n p [frm] [start] = 0 then ((arrivalsL n p spanHi frm start (-1)).map told1, (arrivalsL n p spanLo frm start (-1)).map told1, 0) else ([], [], openF n p [frm] [start])
end Go.Ab
namespace Go.Ab
open Go.RowKit Go.Proofs
set_option maxHeartbeats 4000000
set_option maxRecDepth 20000
attribute [local irreducible] WalkL Walk
def exN : Net := ⟨4, [⟨0, 1, 2, ⟨100, 120⟩, ⟨0, 0⟩, [⟨0, 2880⟩]⟩, ⟨1, 2, 3, ⟨60, 90⟩, ⟨4, 10⟩, [⟨0, 2880⟩]⟩, ⟨2, 3, 2, ⟨60, 60⟩, ⟨0, 0⟩, [⟨400, 700⟩]⟩, ⟨0, 3, 2, ⟨300, 400⟩, ⟨0, 0⟩, [⟨0, 2880⟩]⟩, ⟨3, 0, 2, ⟨200, 240⟩, ⟨0, 0⟩, [⟨0, 2880⟩]⟩]⟩
def exP : Party := ⟨3, 0, ⟨100, 100⟩⟩
theorem f38 : Fn Tryz.prog 38 [] (.tup [.agg exN.cells, .agg exP.cells]) := by
  refine fn_walk 26 Tryz.call38 Tryz.func38 rfl (by decide) fun J => ?_
  simp (maxSteps := 4000000) only [go_sem, St.start, Tryz.ntmps38, Tryz.results38]
  repeat (first | refine walkL_seq ?_ | refine walkL_skip ?_ | refine walkL_block ?_ | (refine walkL_region fun K hK => ?_; simp (maxSteps := 4000000) only [go_sem]; (repeat (first | (refine ⟨_, .lent (hf := f84 _ _) (hd := rfl) (hr := rfl), ?_⟩; simp (maxSteps := 4000000) only [go_sem]) | (refine ⟨_, .given (hf := f84 _ _) (hd := rfl) (ha := rfl), ?_⟩; simp (maxSteps := 4000000) only [go_sem]))); refine hK _ ?_; clear hK K) | refine walkL_nil ?_ | refine walkL_ret ?_ | refine walkL_exit ?_ | refine blockA_here ?_ | refine blockA_other rfl ?_ | refine blockA_ret ?_ | refine blockA_normal ?_ | refine thenA_ret ?_ | refine thenA_exit ?_ | refine thenA_normal ?_)
  simp (maxSteps := 4000000) only [go_sem, exN, exP, Net.cells, Party.cells, Path.row, Span.row]
theorem ex_small : exN.Small := ⟨by decide, by intro x hx; revert hx x; decide⟩
end Go.Ab
/- Plain laws of layer 1: paths, arrivals, deadlines. -/
namespace Go.Ab
open Go.RowKit Go.Proofs
set_option maxHeartbeats 1000000
theorem enter_le_iff (t b : Int) : ∀ (l : List Span) (f : Int), l.foldl (fun f s => if t ≤ s.hi then min f (max t s.lo) else f) f ≤ b ↔ f ≤ b ∨ ∃ s ∈ l, t ≤ s.hi ∧ max t s.lo ≤ b
  | [], f => by simp
  | s :: l, f => by
    rw [List.foldl_cons, enter_le_iff t b l]
    simp only [List.mem_cons, exists_eq_or_imp]
    split
    · rename_i h
      constructor
      · rintro (h1 | h1)
        · by_cases h2 : f ≤ b
          · exact .inl h2
          · exact .inr (.inl ⟨h, by omega⟩)
        · exact .inr (.inr h1)
      · rintro (h1 | h1 | h1)
        · exact .inl (by omega)
        · exact .inl (by omega)
        · exact .inr h1
    · rename_i h
      constructor
      · rintro (h1 | h1)
        · exact .inl h1
        · exact .inr (.inr h1)
      · rintro (h1 | h1 | h1)
        · exact .inl h1
        · omega
        · exact .inr h1
theorem enter_never (opens : List Span) (t : Int) : enterF opens t ≤ never := (enter_le_iff t never opens _).2 (.inl (by decide))
theorem enter_ge {opens : List Span} {t : Int} (h : enterF opens t < never) : t ≤ enterF opens t := by
  have h1 := (enter_le_iff t (enterF opens t) opens 1073741824).1 (Int.le_refl _)
  rcases h1 with h1 | ⟨s, _, _, h1⟩
  · have : (1073741824 : Int) = never := rfl
    omega
  · omega
theorem enter_nonneg {opens : List Span} {t : Int} (h : 0 ≤ t) : 0 ≤ enterF opens t := by
  by_cases h1 : enterF opens t < never
  · have := enter_ge h1; omega
  · have : (1073741824 : Int) = never := rfl
    omega
def okTime (d : Int) : Prop := 1 ≤ d ∧ d ≤ 6000
theorem arrive_eq {opens : List Span} {t d : Int} (ht : 0 ≤ t) (hd : okTime d) : arriveF opens t d = if enterF opens t + d > 2880 then never else enterF opens t + d := by
  have h1 := enter_nonneg (opens := opens) ht
  have h2 := enter_never opens t
  have hv : never = 1073741824 := rfl
  have hw : wr (enterF opens t + d) = enterF opens t + d := wr_small (by unfold okTime at hd; omega)
  unfold arriveF
  rw [hw]
  rfl
theorem arrive_le_iff {opens : List Span} {t d b : Int} (ht : 0 ≤ t) (hd : okTime d) (hb : b ≤ 2880) : arriveF opens t d ≤ b ↔ ∃ s ∈ opens, t ≤ s.hi ∧ max t s.lo ≤ b - d := by
  have hv : never = 1073741824 := rfl
  unfold okTime at hd
  rw [arrive_eq ht hd]
  have h := enter_le_iff t (b - d) opens 1073741824
  change enterF opens t ≤ b - d ↔ _ at h
  constructor
  · intro h1
    split at h1
    · omega
    · rcases h.1 (by omega) with h2 | h2
      · omega
      · exact h2
  · intro h1
    have := h.2 (.inr h1)
    rw [if_neg (by omega)]
    omega
theorem arrive_range {opens : List Span} {t d : Int} (ht : 0 ≤ t) (hd : okTime d) : arriveF opens t d = never ∨ (t + d ≤ arriveF opens t d ∧ arriveF opens t d ≤ 2880) := by
  have hv : never = 1073741824 := rfl
  unfold okTime at hd
  rw [arrive_eq ht hd]
  split
  · exact .inl rfl
  · have := enter_ge (opens := opens) (t := t) (by omega)
    exact .inr (by omega)
theorem arrive_mono {opens : List Span} {t t' d : Int} (ht : 0 ≤ t) (hle : t ≤ t') (hd : okTime d) : arriveF opens t d ≤ arriveF opens t' d := by
  have hv : never = 1073741824 := rfl
  rcases arrive_range (opens := opens) (t := t') (by omega) hd with h | ⟨h1, h2⟩
  · rw [h]
    rcases arrive_range (opens := opens) ht hd with h' | h'
    · omega
    · omega
  · obtain ⟨s, q1, q2, q3⟩ := (arrive_le_iff (b := arriveF opens t' d) (by omega) hd h2).1 (Int.le_refl _)
    exact (arrive_le_iff ht hd h2).2 ⟨s, q1, by omega, by omega⟩
inductive Reach (ws : List (Nat × Path)) (dur : Path → Int) (x s : Int) : Int → Int → Prop where
  | refl : Reach ws dur x s x s
  | step {y t : Int} (w : Nat × Path) : Reach ws dur x s y t → w ∈ ws → w.2.frm = y → arriveF w.2.opens t (dur w.2) ≤ 2880 → Reach ws dur x s w.2.to (arriveF w.2.opens t (dur w.2))
def OkWs (n : Net) (dur : Path → Int) (ws : List (Nat × Path)) : Prop := ∀ w ∈ ws, (0 ≤ w.2.frm ∧ w.2.frm < n.places) ∧ (0 ≤ w.2.to ∧ w.2.to < n.places) ∧ okTime (dur w.2)
theorem Reach.range {n : Net} {ws : List (Nat × Path)} {dur : Path → Int} (hw : OkWs n dur ws) {x s y t : Int} (hs : 0 ≤ s ∧ s ≤ 2880) (hx : 0 ≤ x ∧ x < n.places) (h : Reach ws dur x s y t) :
    s ≤ t ∧ t ≤ 2880 ∧ 0 ≤ y ∧ y < n.places := by
  induction h with
  | refl => omega
  | @step y t w _ hm hf hle ih =>
    obtain ⟨h1, h2, h3⟩ := hw w hm
    have hv : never = 1073741824 := rfl
    rcases arrive_range (opens := w.2.opens) (t := t) (d := dur w.2) (by omega) h3 with h | h
    · omega
    · unfold okTime at h3; omega
theorem Reach.mono {n : Net} {ws : List (Nat × Path)} {dur : Path → Int} (hw : OkWs n dur ws) {x s s' y t : Int} (hs : 0 ≤ s' ∧ s' ≤ s) (h2 : s ≤ 2880) (hx : 0 ≤ x ∧ x < n.places) (h : Reach ws dur x s y t) : ∃ t', t' ≤ t ∧ Reach ws dur x s' y t' := by
  induction h with
  | refl => exact ⟨s', hs.2, .refl⟩
  | @step y t w hr hm hf hle ih =>
    obtain ⟨t', ht', hr'⟩ := ih
    have hrg := hr'.range hw (by omega) hx
    have := arrive_mono (opens := w.2.opens) (t := t') (t' := t) (d := dur w.2) (by omega) ht' (hw w hm).2.2
    exact ⟨_, this, .step w hr' hm hf (by omega)⟩
end Go.Ab
/- Plain laws of layer 1: what the passes come to. -/
namespace Go.Ab
open Go.RowKit Go.Proofs
set_option maxHeartbeats 1000000
theorem Reach.trans {ws : List (Nat × Path)} {dur : Path → Int} {x s y t z u : Int} (h : Reach ws dur x s y t) (h' : Reach ws dur y t z u) : Reach ws dur x s z u := by
  induction h' with
  | refl => exact h
  | step w _ hm hf hle ih => exact .step w ih hm hf hle
theorem Reach.one {ws : List (Nat × Path)} {dur : Path → Int} {t : Int} {w : Nat × Path} (hm : w ∈ ws) (hle : arriveF w.2.opens t (dur w.2) ≤ 2880) : Reach ws dur w.2.frm t w.2.to (arriveF w.2.opens t (dur w.2)) :=
  .step w .refl hm rfl hle
section
variable {n : Net} {p : Party} {q : Span → Int} {but frm start : Int}
def ArrInv (n : Net) (ws : List (Nat × Path)) (dur : Path → Int) (frm start : Int) (l : List Int) : Prop :=
  l.length = n.places.toNat ∧ getI l frm ≤ start ∧ ∀ y, 0 ≤ y → y < n.places → getI l y = never ∨ (0 ≤ getI l y ∧ getI l y ≤ 2880 ∧ Reach ws dur frm start y (getI l y))
end
section
variable {n : Net} {p : Party} {to b : Int}
abbrev durHi (p : Party) : Path → Int := fun x => (spanW x p).hi
abbrev durLo (p : Party) : Path → Int := fun x => (spanW x p).lo
def DeadInv (n : Net) (p : Party) (to b : Int) (l : List Int) : Prop :=
  l.length = n.places.toNat ∧ b ≤ getI l to ∧ ∀ x, 0 ≤ x → x < n.places → -1 ≤ getI l x ∧ getI l x ≤ 2880 ∧ (0 ≤ getI l x → ∃ t, t ≤ b ∧ Reach (waysL n p (-1)) (durHi p) x (getI l x) to t)
end
end Go.Ab
namespace Go.Ab
open Go.RowKit Go.Proofs
set_option maxHeartbeats 4000000
set_option maxRecDepth 20000
attribute [local irreducible] WalkL Walk
def farB (n : Net) : Bool := decide ((n.paths.length : Int) > 26) || (n.paths.any (fun x => decide ((x.opens.length : Int) > 8)) || (!badNet n && (decide (n.places > 6) || decide ((n.paths.length : Int) > 10))))
theorem f36 (n : Net) (hs : n.Small) : Fn Tryz.prog 36 [.agg n.cells] (.bool (farB n)) := by
  have h27 := f42 n hs
  have hb0 := hs.paths
  refine fn_walk 37 Tryz.call36 Tryz.func36 rfl (by decide) fun J => ?_
  simp (maxSteps := 4000000) only [go_sem, St.start, Tryz.ntmps36, Tryz.results36, Net.cells]
  repeat (first | refine walkL_seq ?_ | refine walkL_skip ?_ | refine walkL_block ?_ | (refine walkL_region fun K hK => ?_; simp (maxSteps := 4000000) only [go_sem]; refine hK _ ?_; clear hK K) | refine walkL_nil ?_ | refine walkL_ret ?_ | refine walkL_exit ?_ | refine blockA_here ?_ | refine blockA_other rfl ?_ | refine blockA_ret ?_ | refine blockA_normal ?_ | refine thenA_ret ?_ | refine thenA_exit ?_ | refine thenA_normal ?_)
  refine walkL_cond rfl (fun hc => ?_) (fun hc => ?_)
  · repeat (first | refine walkL_seq ?_ | refine walkL_skip ?_ | refine walkL_block ?_ | (refine walkL_region fun K hK => ?_; simp (maxSteps := 4000000) only [go_sem]; refine hK _ ?_; clear hK K) | refine walkL_nil ?_ | refine walkL_ret ?_ | refine walkL_exit ?_ | refine blockA_here ?_ | refine blockA_other rfl ?_ | refine blockA_ret ?_ | refine blockA_normal ?_ | refine thenA_ret ?_ | refine thenA_exit ?_ | refine thenA_normal ?_)
    simp (maxSteps := 4000000) only [go_sem, farB, hc]
  · repeat (first | refine walkL_seq ?_ | refine walkL_skip ?_ | refine walkL_block ?_ | (refine walkL_region fun K hK => ?_; simp (maxSteps := 4000000) only [go_sem]; refine hK _ ?_; clear hK K) | refine walkL_nil ?_ | refine walkL_ret ?_ | refine walkL_exit ?_ | refine blockA_here ?_ | refine blockA_other rfl ?_ | refine blockA_ret ?_ | refine blockA_normal ?_ | refine thenA_ret ?_ | refine thenA_exit ?_ | refine thenA_normal ?_)
    refine walkL_loopS (fun (i : Nat) => [(3, .d (.i i))]) (fun _ => []) (fun i => i ≤ n.paths.length ∧ (n.paths.take i).any (fun x => decide ((x.opens.length : Int) > 8)) = false) (fun i => n.paths.length - i) 0 ?_ ⟨Nat.zero_le _, rfl⟩ ?_
    · simp (maxSteps := 4000000) only [go_sem]
      refine weak_of [] ?_ ?_ rfl rfl <;> simp [lessT, lessM, lessB, AV.less]
    · intro i ⟨hi, hall⟩
      simp (maxSteps := 4000000) only [go_sem]
      repeat (first | refine walkL_seq ?_ | refine walkL_skip ?_ | refine walkL_block ?_ | (refine walkL_region fun K hK => ?_; simp (maxSteps := 4000000) only [go_sem]; refine hK _ ?_; clear hK K) | refine walkL_nil ?_ | refine walkL_ret ?_ | refine walkL_exit ?_ | refine blockA_here ?_ | refine blockA_other rfl ?_ | refine blockA_ret ?_ | refine blockA_normal ?_ | refine thenA_ret ?_ | refine thenA_exit ?_ | refine thenA_normal ?_)
      refine walkL_cond rfl (fun hb => ?_) (fun hb => ?_)
      · have hlt : i < n.paths.length := by simpa using hb
        have hw : IntKind.i64.wrap ((i : Int) + 1) = ((i + 1 : Nat) : Int) := by rw [wr_small (by omega)]; simp
        obtain ⟨x, hx⟩ : ∃ x, n.paths[i]? = some x := ⟨_, List.getElem?_eq_getElem hlt⟩
        repeat (first | refine walkL_seq ?_ | refine walkL_skip ?_ | refine walkL_block ?_ | (refine walkL_region fun K hK => ?_; simp (maxSteps := 4000000) only [go_sem, hx, List.getElem?_map, Path.row]; refine hK _ ?_; clear hK K) | refine walkL_nil ?_ | refine walkL_ret ?_ | refine walkL_exit ?_ | refine blockA_here ?_ | refine blockA_other rfl ?_ | refine blockA_ret ?_ | refine blockA_normal ?_ | refine thenA_ret ?_ | refine thenA_exit ?_ | refine thenA_normal ?_)
        refine walkL_cond rfl (fun hd => ?_) (fun hd => ?_)
        · repeat (first | refine walkL_seq ?_ | refine walkL_skip ?_ | refine walkL_block ?_ | (refine walkL_region fun K hK => ?_; simp (maxSteps := 4000000) only [go_sem]; refine hK _ ?_; clear hK K) | refine walkL_nil ?_ | refine walkL_ret ?_ | refine walkL_exit ?_ | refine blockA_here ?_ | refine blockA_other rfl ?_ | refine blockA_ret ?_ | refine blockA_normal ?_ | refine thenA_ret ?_ | refine thenA_exit ?_ | refine thenA_normal ?_)
          have ha := any_of_get (q := fun x : Path => decide ((x.opens.length : Int) > 8)) hx hd
          simp (maxSteps := 4000000) only [go_sem, farB, hc, ha]
        · repeat (first | refine walkL_seq ?_ | refine walkL_skip ?_ | refine walkL_block ?_ | (refine walkL_region fun K hK => ?_; simp (maxSteps := 4000000) only [go_sem, hw]; refine hK _ ?_; clear hK K) | refine walkL_nil ?_ | refine walkL_ret ?_ | refine walkL_exit ?_ | refine blockA_here ?_ | refine blockA_other rfl ?_ | refine blockA_ret ?_ | refine blockA_normal ?_ | refine thenA_ret ?_ | refine thenA_exit ?_ | refine thenA_normal ?_)
          refine ⟨rfl, i + 1, ?_, ⟨hlt, any_take_succ hx hall hd⟩, by omega⟩
          refine weak_of [] ?_ ?_ rfl rfl <;> simp [lessT, lessM, lessB, AV.less]
      · have he : i = n.paths.length := by (have : ¬ i < n.paths.length := by simpa using hb); omega
        subst he
        rw [List.take_length] at hall
        have hf : farB n = (!badNet n && (decide (n.places > 6) || decide ((n.paths.length : Int) > 10))) := by unfold farB; rw [hc, hall]; rfl
        rw [hf]
        by_cases hbad : badNet n = true
        · repeat (first | refine walkL_seq ?_ | refine walkL_skip ?_ | refine walkL_block ?_ | (refine walkL_region fun K hK => ?_; simp (maxSteps := 4000000) only [go_sem, checkF, hbad]; (repeat (first | (refine ⟨_, .lent (hf := h27) (hd := rfl) (hr := rfl), ?_⟩; simp (maxSteps := 4000000) only [go_sem, checkF, hbad]) | (refine ⟨_, .given (hf := h27) (hd := rfl) (ha := rfl), ?_⟩; simp (maxSteps := 4000000) only [go_sem, checkF, hbad]))); refine hK _ ?_; clear hK K) | refine walkL_nil ?_ | refine walkL_ret ?_ | refine walkL_exit ?_ | refine blockA_here ?_ | refine blockA_other rfl ?_ | refine blockA_ret ?_ | refine blockA_normal ?_ | refine thenA_ret ?_ | refine thenA_exit ?_ | refine thenA_normal ?_)
          try simp (maxSteps := 4000000) only [go_sem, hbad]
        · by_cases hp : n.places > 6
          · repeat (first | refine walkL_seq ?_ | refine walkL_skip ?_ | refine walkL_block ?_ | (refine walkL_region fun K hK => ?_; simp (maxSteps := 4000000) only [go_sem, checkF, hbad, hp]; (repeat (first | (refine ⟨_, .lent (hf := h27) (hd := rfl) (hr := rfl), ?_⟩; simp (maxSteps := 4000000) only [go_sem, checkF, hbad, hp]) | (refine ⟨_, .given (hf := h27) (hd := rfl) (ha := rfl), ?_⟩; simp (maxSteps := 4000000) only [go_sem, checkF, hbad, hp]))); refine hK _ ?_; clear hK K) | refine walkL_nil ?_ | refine walkL_ret ?_ | refine walkL_exit ?_ | refine blockA_here ?_ | refine blockA_other rfl ?_ | refine blockA_ret ?_ | refine blockA_normal ?_ | refine thenA_ret ?_ | refine thenA_exit ?_ | refine thenA_normal ?_)
            simp (maxSteps := 4000000) only [go_sem, hbad, hp]
          · repeat (first | refine walkL_seq ?_ | refine walkL_skip ?_ | refine walkL_block ?_ | (refine walkL_region fun K hK => ?_; simp (maxSteps := 4000000) only [go_sem, checkF, hbad, hp]; (repeat (first | (refine ⟨_, .lent (hf := h27) (hd := rfl) (hr := rfl), ?_⟩; simp (maxSteps := 4000000) only [go_sem, checkF, hbad, hp]) | (refine ⟨_, .given (hf := h27) (hd := rfl) (ha := rfl), ?_⟩; simp (maxSteps := 4000000) only [go_sem, checkF, hbad, hp]))); refine hK _ ?_; clear hK K) | refine walkL_nil ?_ | refine walkL_ret ?_ | refine walkL_exit ?_ | refine blockA_here ?_ | refine blockA_other rfl ?_ | refine blockA_ret ?_ | refine blockA_normal ?_ | refine thenA_ret ?_ | refine thenA_exit ?_ | refine thenA_normal ?_)
            simp (maxSteps := 4000000) only [go_sem, hbad, hp]
structure Trip where
  frm : Int
  to : Int
  start : Int
  deadline : Int
  route : List Int
  path : Int
def Trip.row (x : Trip) : List DV := [.i x.frm, .i x.to, .i x.start, .i x.deadline, .sl (intRows x.route), .i x.path]
def fitsB (n : Net) (p : Party) (x : Trip) : Bool :=
  !farB n && (checkPartyF n p == 0 && (withinB x.frm 0 (n.places - 1) && (withinB x.to 0 (n.places - 1) && (withinB x.start 0 2880 && withinB x.deadline 0 2880))))
end Go.Ab
namespace Go.Ab
open Go.RowKit Go.Proofs
set_option maxHeartbeats 8000000
set_option maxRecDepth 20000
attribute [local irreducible] WalkL Walk
structure Rule where
  path : Int
  after : Int
  lim : Limits
def Rule.row (r : Rule) : List DV := [.i r.path, .i r.after, .i r.lim.wind, .i r.lim.rain, .i r.lim.temp.lo, .i r.lim.temp.hi]
def ruleRows (l : List Rule) : List (List DV) := l.map Rule.row
theorem ruleRows_len (l : List Rule) : (ruleRows l).length = l.length := by simp [ruleRows]
theorem ruleRows_at {l : List Rule} {i : Nat} {x : Rule} (h : l[i]? = some x) : (ruleRows l)[i]? = some x.row := by simp [ruleRows, h]
theorem ruleRows_head (l : List Rule) : headIs 6 (ruleRows l) = true := by cases l <;> rfl
theorem ruleRows_set (l : List Rule) (k : Nat) (x : Rule) : (ruleRows l).set k x.row = ruleRows (l.set k x) := by simp [ruleRows, List.map_set]
theorem rowsFlat_rule (l : List Rule) : rowsFlat (ruleRows l) := rowsFlat_map (by intro x d hd; simp [Rule.row] at hd; rcases hd with rfl | rfl | rfl | rfl | rfl | rfl <;> rfl) l
attribute [go_sem] ruleRows_len ruleRows_head
theorem f139 (xs : List Rule) (g : Nat) (caps : List DV) (q : Rule → Bool) (hq : ∀ s ∈ xs, Fn Tryz.prog g (.agg s.row :: caps) (.bool (q s))) (hl : xs.length < 2 ^ 62) : Fn Tryz.prog 139 [.sl (ruleRows xs), .fn g caps] (.i (idxFrom q xs 0)) := by
  refine fn_walk 19 Tryz.call139 Tryz.func139 rfl (by decide) fun J => ?_
  simp (maxSteps := 4000000) only [go_sem, St.start, Tryz.ntmps139, Tryz.results139]
  repeat (first | refine walkL_seq ?_ | refine walkL_skip ?_ | refine walkL_block ?_ | (refine walkL_region fun K hK => ?_; simp (maxSteps := 4000000) only [go_sem]; refine hK _ ?_; clear hK K) | refine walkL_nil ?_ | refine walkL_ret ?_ | refine walkL_exit ?_ | refine blockA_here ?_ | refine blockA_other rfl ?_ | refine blockA_ret ?_ | refine blockA_normal ?_ | refine thenA_ret ?_ | refine thenA_exit ?_ | refine thenA_normal ?_)
  refine walkL_loopS (fun (i : Nat) => [(8, .d (.i i))]) (fun _ => []) (fun i => i ≤ xs.length ∧ idxFrom q xs 0 = idxFrom q (xs.drop i) i) (fun i => xs.length - i) 0 ?_ ⟨Nat.zero_le _, rfl⟩ ?_
  · simp (maxSteps := 4000000) only [go_sem]
    refine weak_of [] ?_ ?_ rfl rfl <;> simp [lessT, lessM, lessB, AV.less]
  · intro i ⟨hi, hq0⟩
    simp (maxSteps := 4000000) only [go_sem]
    repeat (first | refine walkL_seq ?_ | refine walkL_skip ?_ | refine walkL_block ?_ | (refine walkL_region fun K hK => ?_; simp (maxSteps := 4000000) only [go_sem]; refine hK _ ?_; clear hK K) | refine walkL_nil ?_ | refine walkL_ret ?_ | refine walkL_exit ?_ | refine blockA_here ?_ | refine blockA_other rfl ?_ | refine blockA_ret ?_ | refine blockA_normal ?_ | refine thenA_ret ?_ | refine thenA_exit ?_ | refine thenA_normal ?_)
    refine walkL_cond rfl (fun hb => ?_) (fun hb => ?_)
    · have hlt : i < xs.length := by simpa using hb
      have hw : IntKind.i64.wrap ((i : Int) + 1) = ((i + 1 : Nat) : Int) := by rw [wr_small (by omega)]; simp
      obtain ⟨s, hs⟩ : ∃ s, xs[i]? = some s := ⟨_, List.getElem?_eq_getElem hlt⟩
      rw [drop_get hs, idxFrom] at hq0
      repeat (first | refine walkL_seq ?_ | refine walkL_skip ?_ | refine walkL_block ?_ | (refine walkL_region fun K hK => ?_; simp (maxSteps := 4000000) only [go_sem]; refine hK _ ?_; clear hK K) | refine walkL_nil ?_ | refine walkL_ret ?_ | refine walkL_exit ?_ | refine blockA_here ?_ | refine blockA_other rfl ?_ | refine blockA_ret ?_ | refine blockA_normal ?_ | refine thenA_ret ?_ | refine thenA_exit ?_ | refine thenA_normal ?_)
      refine walkL_region fun K hK => ?_
      simp (maxSteps := 4000000) only [go_sem, hs, List.getElem?_map, ruleRows_at hs, Rule.row, hw]
      refine ⟨_, .lent (hf := hq s (List.mem_of_getElem? hs)) (hd := reify_caps _ _ _ _ rfl) (hr := rfl), ?_⟩
      simp (maxSteps := 4000000) only [go_sem]
      refine hK _ ?_
      clear hK K
      refine walkL_cond rfl (fun hc => ?_) (fun hc => ?_)
      · rw [hc, if_pos rfl] at hq0
        repeat (first | refine walkL_seq ?_ | refine walkL_skip ?_ | refine walkL_block ?_ | (refine walkL_region fun K hK => ?_; simp (maxSteps := 4000000) only [go_sem]; refine hK _ ?_; clear hK K) | refine walkL_nil ?_ | refine walkL_ret ?_ | refine walkL_exit ?_ | refine blockA_here ?_ | refine blockA_other rfl ?_ | refine blockA_ret ?_ | refine blockA_normal ?_ | refine thenA_ret ?_ | refine thenA_exit ?_ | refine thenA_normal ?_)
        simp (maxSteps := 4000000) only [go_sem, hq0]
      · rw [hc] at hq0
        repeat (first | refine walkL_seq ?_ | refine walkL_skip ?_ | refine walkL_block ?_ | (refine walkL_region fun K hK => ?_; simp (maxSteps := 4000000) only [go_sem, hw]; refine hK _ ?_; clear hK K) | refine walkL_nil ?_ | refine walkL_ret ?_ | refine walkL_exit ?_ | refine blockA_here ?_ | refine blockA_other rfl ?_ | refine blockA_ret ?_ | refine blockA_normal ?_ | refine thenA_ret ?_ | refine thenA_exit ?_ | refine thenA_normal ?_)
        refine ⟨rfl, i + 1, ?_, ⟨hlt, hq0⟩, by omega⟩
        refine weak_of [] ?_ ?_ rfl rfl <;> simp [lessT, lessM, lessB, AV.less]
    · have he : i = xs.length := by (have : ¬ i < xs.length := by simpa using hb); omega
      subst he
      repeat (first | refine walkL_seq ?_ | refine walkL_skip ?_ | refine walkL_block ?_ | (refine walkL_region fun K hK => ?_; simp (maxSteps := 4000000) only [go_sem]; refine hK _ ?_; clear hK K) | refine walkL_nil ?_ | refine walkL_ret ?_ | refine walkL_exit ?_ | refine blockA_here ?_ | refine blockA_other rfl ?_ | refine blockA_ret ?_ | refine blockA_normal ?_ | refine thenA_ret ?_ | refine thenA_exit ?_ | refine thenA_normal ?_)
      simp (maxSteps := 4000000) only [go_sem, hq0, List.drop_length, idxFrom]
theorem f90 (xs : List Rule) (g : Nat) (caps : List DV) (q : Rule → Bool) (hq : ∀ s ∈ xs, Fn Tryz.prog g (.agg s.row :: caps) (.bool (q s))) (hl : xs.length < 2 ^ 62) : Fn Tryz.prog 90 [.sl (ruleRows xs), .fn g caps] (.bool (xs.any q)) := by
  refine fn_walk 9 Tryz.call90 Tryz.func90 rfl (by decide) fun J => ?_
  simp (maxSteps := 4000000) only [go_sem, St.start, Tryz.ntmps90, Tryz.results90]
  repeat (first | refine walkL_seq ?_ | refine walkL_skip ?_ | refine walkL_block ?_ | (refine walkL_region fun K hK => ?_; simp (maxSteps := 4000000) only [go_sem]; (repeat (first | (refine ⟨_, .lent (hf := f139 xs g caps q hq hl) (hd := rfl) (hr := rfl), ?_⟩; simp (maxSteps := 4000000) only [go_sem]) | (refine ⟨_, .given (hf := f139 xs g caps q hq hl) (hd := rfl) (ha := rfl), ?_⟩; simp (maxSteps := 4000000) only [go_sem]))); refine hK _ ?_; clear hK K) | refine walkL_nil ?_ | refine walkL_ret ?_ | refine walkL_exit ?_ | refine blockA_here ?_ | refine blockA_other rfl ?_ | refine blockA_ret ?_ | refine blockA_normal ?_ | refine thenA_ret ?_ | refine thenA_exit ?_ | refine thenA_normal ?_)
  simp (maxSteps := 4000000) only [go_sem, idxFrom_nonneg]
theorem f97 (l : List Rule) (hl : l.length < 2 ^ 30) : FnS Tryz.prog 97 [.sl (ruleRows l)] 79 6 (ruleRows l) := by
  have h1 : l.length ≤ 549755813888 := by omega
  have h2 : 0 + l.length ≤ 549755813888 := by omega
  cases l with
  | nil =>
    have e0 : ruleRows [] = [] := rfl
    have e1 : ([] : List (List DV)).isEmpty = true := rfl
    rw [e0]
    refine fnS_walk 8 Tryz.call97 Tryz.func97 rfl (by decide) fun J => ?_
    simp (maxSteps := 4000000) only [go_sem, St.start, Tryz.ntmps97, Tryz.results97]
    repeat (first | refine walkL_seq ?_ | refine walkL_skip ?_ | refine walkL_block ?_ | (refine walkL_region fun K hK => ?_; simp (maxSteps := 4000000) only [go_sem, e1]; refine hK _ ?_; clear hK K) | refine walkL_nil ?_ | refine walkL_ret ?_ | refine walkL_exit ?_ | refine blockA_here ?_ | refine blockA_other rfl ?_ | refine blockA_ret ?_ | refine blockA_normal ?_ | refine thenA_ret ?_ | refine thenA_exit ?_ | refine thenA_normal ?_)
    refine walkL_any rfl ?_ ?_
    · repeat (first | refine walkL_seq ?_ | refine walkL_skip ?_ | refine walkL_block ?_ | (refine walkL_region fun K hK => ?_; simp (maxSteps := 4000000) only [go_sem]; refine hK _ ?_; clear hK K) | refine walkL_nil ?_ | refine walkL_ret ?_ | refine walkL_exit ?_ | refine blockA_here ?_ | refine blockA_other rfl ?_ | refine blockA_ret ?_ | refine blockA_normal ?_ | refine thenA_ret ?_ | refine thenA_exit ?_ | refine thenA_normal ?_)
      simp (maxSteps := 4000000) only [go_sem]
    · repeat (first | refine walkL_seq ?_ | refine walkL_skip ?_ | refine walkL_block ?_ | (refine walkL_region fun K hK => ?_; simp (maxSteps := 4000000) only [go_sem, List.nil_append, List.length_nil]; refine hK _ ?_; clear hK K) | refine walkL_nil ?_ | refine walkL_ret ?_ | refine walkL_exit ?_ | refine blockA_here ?_ | refine blockA_other rfl ?_ | refine blockA_ret ?_ | refine blockA_normal ?_ | refine thenA_ret ?_ | refine thenA_exit ?_ | refine thenA_normal ?_)
      simp (maxSteps := 4000000) only [go_sem]
  | cons a l =>
    have hne : (ruleRows (a :: l)).isEmpty = false := rfl
    obtain ⟨L, hL⟩ : ∃ L, L = a :: l := ⟨_, rfl⟩
    rw [← hL] at h1 h2 hne ⊢
    refine fnS_walk 8 Tryz.call97 Tryz.func97 rfl (by decide) fun J => ?_
    simp (maxSteps := 4000000) only [go_sem, St.start, Tryz.ntmps97, Tryz.results97]
    repeat (first | refine walkL_true rfl ?_ | refine walkL_false rfl ?_ | refine walkL_seq ?_ | refine walkL_skip ?_ | refine walkL_block ?_ | (refine walkL_region fun K hK => ?_; simp (maxSteps := 4000000) only [go_sem, hne]; refine hK _ ?_; clear hK K) | refine walkL_nil ?_ | refine walkL_ret ?_ | refine walkL_exit ?_ | refine blockA_here ?_ | refine blockA_other rfl ?_ | refine blockA_ret ?_ | refine blockA_normal ?_ | refine thenA_ret ?_ | refine thenA_exit ?_ | refine thenA_normal ?_)
    repeat (first | refine walkL_seq ?_ | refine walkL_skip ?_ | refine walkL_block ?_ | (refine walkL_region fun K hK => ?_; simp (maxSteps := 4000000) only [go_sem, h1, h2, List.nil_append, List.length_nil]; refine hK _ ?_; clear hK K) | refine walkL_nil ?_ | refine walkL_ret ?_ | refine walkL_exit ?_ | refine blockA_here ?_ | refine blockA_other rfl ?_ | refine blockA_ret ?_ | refine blockA_normal ?_ | refine thenA_ret ?_ | refine thenA_exit ?_ | refine thenA_normal ?_)
    simp (maxSteps := 4000000) only [go_sem]
theorem f48 (l : List Span) (hl : l.length < 2 ^ 30) : FnS Tryz.prog 48 [.sl (spanRows l)] 48 2 (spanRows l) := by
  have h1 : l.length ≤ 549755813888 := by omega
  have h2 : 0 + l.length ≤ 549755813888 := by omega
  cases l with
  | nil =>
    have e0 : spanRows [] = [] := rfl
    have e1 : ([] : List (List DV)).isEmpty = true := rfl
    rw [e0]
    refine fnS_walk 8 Tryz.call48 Tryz.func48 rfl (by decide) fun J => ?_
    simp (maxSteps := 4000000) only [go_sem, St.start, Tryz.ntmps48, Tryz.results48]
    repeat (first | refine walkL_seq ?_ | refine walkL_skip ?_ | refine walkL_block ?_ | (refine walkL_region fun K hK => ?_; simp (maxSteps := 4000000) only [go_sem, e1]; refine hK _ ?_; clear hK K) | refine walkL_nil ?_ | refine walkL_ret ?_ | refine walkL_exit ?_ | refine blockA_here ?_ | refine blockA_other rfl ?_ | refine blockA_ret ?_ | refine blockA_normal ?_ | refine thenA_ret ?_ | refine thenA_exit ?_ | refine thenA_normal ?_)
    refine walkL_any rfl ?_ ?_
    · repeat (first | refine walkL_seq ?_ | refine walkL_skip ?_ | refine walkL_block ?_ | (refine walkL_region fun K hK => ?_; simp (maxSteps := 4000000) only [go_sem]; refine hK _ ?_; clear hK K) | refine walkL_nil ?_ | refine walkL_ret ?_ | refine walkL_exit ?_ | refine blockA_here ?_ | refine blockA_other rfl ?_ | refine blockA_ret ?_ | refine blockA_normal ?_ | refine thenA_ret ?_ | refine thenA_exit ?_ | refine thenA_normal ?_)
      simp (maxSteps := 4000000) only [go_sem]
    · repeat (first | refine walkL_seq ?_ | refine walkL_skip ?_ | refine walkL_block ?_ | (refine walkL_region fun K hK => ?_; simp (maxSteps := 4000000) only [go_sem, List.nil_append, List.length_nil]; refine hK _ ?_; clear hK K) | refine walkL_nil ?_ | refine walkL_ret ?_ | refine walkL_exit ?_ | refine blockA_here ?_ | refine blockA_other rfl ?_ | refine blockA_ret ?_ | refine blockA_normal ?_ | refine thenA_ret ?_ | refine thenA_exit ?_ | refine thenA_normal ?_)
      simp (maxSteps := 4000000) only [go_sem]
  | cons a l =>
    have hne : (spanRows (a :: l)).isEmpty = false := rfl
    obtain ⟨L, hL⟩ : ∃ L, L = a :: l := ⟨_, rfl⟩
    rw [← hL] at h1 h2 hne ⊢
    refine fnS_walk 8 Tryz.call48 Tryz.func48 rfl (by decide) fun J => ?_
    simp (maxSteps := 4000000) only [go_sem, St.start, Tryz.ntmps48, Tryz.results48]
    repeat (first | refine walkL_true rfl ?_ | refine walkL_false rfl ?_ | refine walkL_seq ?_ | refine walkL_skip ?_ | refine walkL_block ?_ | (refine walkL_region fun K hK => ?_; simp (maxSteps := 4000000) only [go_sem, hne]; refine hK _ ?_; clear hK K) | refine walkL_nil ?_ | refine walkL_ret ?_ | refine walkL_exit ?_ | refine blockA_here ?_ | refine blockA_other rfl ?_ | refine blockA_ret ?_ | refine blockA_normal ?_ | refine thenA_ret ?_ | refine thenA_exit ?_ | refine thenA_normal ?_)
    repeat (first | refine walkL_seq ?_ | refine walkL_skip ?_ | refine walkL_block ?_ | (refine walkL_region fun K hK => ?_; simp (maxSteps := 4000000) only [go_sem, h1, h2, List.nil_append, List.length_nil]; refine hK _ ?_; clear hK K) | refine walkL_nil ?_ | refine walkL_ret ?_ | refine walkL_exit ?_ | refine blockA_here ?_ | refine blockA_other rfl ?_ | refine blockA_ret ?_ | refine blockA_normal ?_ | refine thenA_ret ?_ | refine thenA_exit ?_ | refine thenA_normal ?_)
    simp (maxSteps := 4000000) only [go_sem]
theorem f98 (x : Rule) (p : Int) : Fn Tryz.prog 98 [.agg x.row, .ptr [.i p] 0] (.bool (x.path != p)) := by
  refine fn_walk 8 Tryz.call98 Tryz.func98 rfl (by decide) fun J => ?_
  simp (maxSteps := 4000000) only [go_sem, St.start, Tryz.ntmps98, Tryz.results98, Rule.row]
  repeat (first | refine walkL_seq ?_ | refine walkL_skip ?_ | refine walkL_block ?_ | (refine walkL_region fun K hK => ?_; simp (maxSteps := 4000000) only [go_sem]; refine hK _ ?_; clear hK K) | refine walkL_nil ?_ | refine walkL_ret ?_ | refine walkL_exit ?_ | refine blockA_here ?_ | refine blockA_other rfl ?_ | refine blockA_ret ?_ | refine blockA_normal ?_ | refine thenA_ret ?_ | refine thenA_exit ?_ | refine thenA_normal ?_)
  simp (maxSteps := 4000000) only [go_sem]
def delTo (q : Rule → Bool) (l : List Rule) (i0 : Nat) : Nat → Nat × List Rule
  | 0 => (i0, l)
  | k + 1 => match l[i0 + 1 + k]? with
    | some x => if q x then delTo q l i0 k else ((delTo q l i0 k).1 + 1, (delTo q l i0 k).2.set (delTo q l i0 k).1 x)
    | none => delTo q l i0 k
theorem idx_spec {α : Type} (q : α → Bool) : ∀ (l : List α) (i : Nat), (idxFrom q l i = -1 ∧ ∀ x ∈ l, q x = false) ∨ ∃ p x, idxFrom q l i = ((i + p : Nat) : Int) ∧ l[p]? = some x ∧ q x = true ∧ ∀ y ∈ l.take p, q y = false
  | [], i => .inl ⟨rfl, fun x h => by simp at h⟩
  | x :: l, i => by
    rw [idxFrom]
    by_cases h : q x = true
    · rw [if_pos h]
      exact .inr ⟨0, x, by simp, rfl, h, fun y hy => by simp at hy⟩
    · rw [if_neg h]
      have h' : q x = false := by simpa using h
      rcases idx_spec q l (i + 1) with ⟨h1, h2⟩ | ⟨p, y, h1, h2, h3, h4⟩
      · exact .inl ⟨h1, fun y hy => by rcases List.mem_cons.1 hy with rfl | hy; exact h'; exact h2 y hy⟩
      · refine .inr ⟨p + 1, y, by rw [h1]; congr 1; omega, by simpa using h2, h3, fun z hz => ?_⟩
        rw [List.take_succ_cons] at hz
        rcases List.mem_cons.1 hz with rfl | hz
        · exact h'
        · exact h4 z hz
theorem del_spec {q : Rule → Bool} {l : List Rule} {i0 : Nat} {x0 : Rule} (h0 : l[i0]? = some x0) (hq0 : q x0 = true) (hpre : ∀ y ∈ l.take i0, q y = false) : ∀ k, i0 + 1 + k ≤ l.length →
    (delTo q l i0 k).2.length = l.length ∧ (delTo q l i0 k).1 ≤ i0 + k ∧ (delTo q l i0 k).2.take (delTo q l i0 k).1 = (l.take (i0 + 1 + k)).filter (fun x => !q x) ∧ ∀ p, i0 + 1 + k ≤ p → (delTo q l i0 k).2[p]? = l[p]?
  | 0, hk => by
    refine ⟨rfl, Nat.le_refl _, ?_, fun p _ => rfl⟩
    show l.take i0 = _
    rw [Nat.add_zero, List.take_add_one, h0, List.filter_append]
    have e1 : (l.take i0).filter (fun x => !q x) = l.take i0 := List.filter_eq_self.2 fun y hy => by rw [hpre y hy]; rfl
    rw [e1]
    simp [hq0]
  | k + 1, hk => by
    obtain ⟨h1, h2, h3, h4⟩ := del_spec h0 hq0 hpre k (by omega)
    obtain ⟨x, hx⟩ : ∃ x, l[i0 + 1 + k]? = some x := ⟨_, List.getElem?_eq_getElem (by omega)⟩
    have htk : l.take (i0 + 1 + (k + 1)) = l.take (i0 + 1 + k) ++ [x] := by
      rw [show i0 + 1 + (k + 1) = i0 + 1 + k + 1 by omega, List.take_add_one, hx]; rfl
    rw [htk, List.filter_append]
    rw [delTo, hx]
    dsimp only
    by_cases hq : q x = true
    · rw [if_pos hq]
      refine ⟨h1, by omega, ?_, fun p hp => h4 p (by omega)⟩
      rw [h3]
      simp [hq]
    · rw [if_neg hq]
      have hq' : q x = false := by simpa using hq
      refine ⟨by simp [h1], by dsimp only; omega, ?_, fun p hp => ?_⟩
      · dsimp only
        rw [List.take_add_one, List.take_set_of_le (Nat.le_refl _), h3, List.getElem?_set_self (by omega)]
        simp [hq']
      · dsimp only
        rw [List.getElem?_set_ne (by omega)]
        exact h4 p (by omega)
theorem noRule_row : zrowP Tryz.prog 79 = some [.i 0, .i 0, .i 0, .i 0, .i 0, .i 0] := by kernel_rfl
theorem f96 (l : List Rule) (g : Nat) (caps : List DV) (q : Rule → Bool) (hq : ∀ x ∈ l, Fn Tryz.prog g (.agg x.row :: caps) (.bool (q x))) (hl : l.length < 2 ^ 30) :
    (∀ x ∈ l, q x = false) ∧ FnG Tryz.prog 96 [.arr 79 6 (ruleRows l)] [0] [.own 0, .d (.fn g caps)] (.own 0) [.arr 79 6 (ruleRows l)] ∨
    ∃ (k : Nat) (X : List (List DV)), X.take k = ruleRows (l.filter fun x => !q x) ∧ k ≤ X.length ∧ X.length = l.length ∧ (X.all fun r => r.all DV.flat) = true ∧ FnG Tryz.prog 96 [.arr 79 6 (ruleRows l)] [0] [.own 0, .d (.fn g caps)] (.view 0 0 k) [.arr 79 6 X] := by
  have h114 := f139 l g caps q hq (by omega)
  rcases idx_spec q l 0 with ⟨h1, h2⟩ | ⟨i0, x0, h1, h2, h3, h4⟩
  · rw [h1] at h114
    refine .inl ⟨h2, ?_⟩
    refine fnG_walk 42 Tryz.call96 Tryz.func96 rfl (by decide) [] [(0, 0)] (by simp only [List.length_cons, List.length_nil]; decide) (by kernel_rfl) fun J => ?_
    simp (maxSteps := 4000000) only [go_sem, St.startG, Tryz.ntmps96, Tryz.results96, List.map_cons, List.map_nil, List.range_succ]
    repeat (first | refine walkL_true rfl ?_ | refine walkL_false rfl ?_ | refine walkL_seq ?_ | refine walkL_skip ?_ | refine walkL_block ?_ | (refine walkL_region fun K hK => ?_; simp (maxSteps := 4000000) only [go_sem]; (repeat (first | (refine ⟨_, .lent (hf := h114) (hd := rfl) (hr := rfl), ?_⟩; simp (maxSteps := 4000000) only [go_sem]) | (refine ⟨_, .given (hf := h114) (hd := rfl) (ha := rfl), ?_⟩; simp (maxSteps := 4000000) only [go_sem]))); refine hK _ ?_; clear hK K) | refine walkL_nil ?_ | refine walkL_ret ?_ | refine walkL_exit ?_ | refine blockA_here ?_ | refine blockA_other rfl ?_ | refine blockA_ret ?_ | refine blockA_normal ?_ | refine thenA_ret ?_ | refine thenA_exit ?_ | refine thenA_normal ?_)
    simp (maxSteps := 4000000) only [go_sem, retG]
  · rw [h1, Nat.zero_add] at h114
    have hi0 : i0 < l.length := (List.getElem?_eq_some_iff.1 h2).1
    have hspec := del_spec h2 h3 h4
    obtain ⟨e1, e2, e3, e4⟩ := hspec (l.length - i0 - 1) (by omega)
    obtain ⟨E, hE⟩ : ∃ E, E = delTo q l i0 (l.length - i0 - 1) := ⟨_, rfl⟩
    rw [← hE] at e1 e2 e3
    rw [show i0 + 1 + (l.length - i0 - 1) = l.length by omega, List.take_length] at e3
    refine .inr ⟨E.1, (ruleRows E.2).take E.1 ++ (List.replicate (l.length - E.1) [.i 0, .i 0, .i 0, .i 0, .i 0, .i 0] ++ (ruleRows E.2).drop (E.1 + (l.length - E.1))), ?_, ?_, ?_, ?_, ?_⟩
    · rw [List.take_append_of_le_length (by simp [ruleRows, e1]; omega), List.take_of_length_le (by rw [List.length_take]; omega), ← e3]
      simp [ruleRows]
    · simp [ruleRows, e1]; omega
    · simp [ruleRows, e1]; omega
    · simp only [List.all_append, Bool.and_eq_true, List.all_eq_true]
      refine ⟨fun r hr d hd => rowsFlat_rule _ r (List.mem_of_mem_take hr) d hd, fun r hr => ?_, fun r hr d hd => rowsFlat_rule _ r (List.mem_of_mem_drop hr) d hd⟩
      rw [List.eq_of_mem_replicate hr]
      decide
    · have w0 : IntKind.i64.wrap ((i0 : Int) + 1) = ((i0 + 1 : Nat) : Int) := by rw [wr_small (by omega)]; simp
      have n0 : ((i0 : Int) == -1) = false := by
        have : ¬ ((i0 : Int) = -1) := by omega
        simp
      refine fnG_walk 42 Tryz.call96 Tryz.func96 rfl (by decide) [] [(0, 0)] (by simp only [List.length_cons, List.length_nil]; decide) (by kernel_rfl) fun J => ?_
      simp (maxSteps := 4000000) only [go_sem, St.startG, Tryz.ntmps96, Tryz.results96, List.map_cons, List.map_nil, List.range_succ]
      repeat (first | refine walkL_true rfl ?_ | refine walkL_false rfl ?_ | refine walkL_seq ?_ | refine walkL_skip ?_ | refine walkL_block ?_ | (refine walkL_region fun K hK => ?_; simp (maxSteps := 4000000) only [go_sem, n0, w0]; (repeat (first | (refine ⟨_, .lent (hf := h114) (hd := rfl) (hr := rfl), ?_⟩; simp (maxSteps := 4000000) only [go_sem, n0, w0]) | (refine ⟨_, .given (hf := h114) (hd := rfl) (ha := rfl), ?_⟩; simp (maxSteps := 4000000) only [go_sem, n0, w0]))); refine hK _ ?_; clear hK K) | refine walkL_nil ?_ | refine walkL_ret ?_ | refine walkL_exit ?_ | refine blockA_here ?_ | refine blockA_other rfl ?_ | refine blockA_ret ?_ | refine blockA_normal ?_ | refine thenA_ret ?_ | refine thenA_exit ?_ | refine thenA_normal ?_)
      refine walkL_loopS (fun (k : Nat) => [(6, .d (.i ((i0 + 1 + k : Nat) : Int))), (5, .d (.i (delTo q l i0 k).1)), (7, .undef)]) (fun k => [(42, some (.arr 79 6 (ruleRows (delTo q l i0 k).2)))]) (fun k => i0 + 1 + k ≤ l.length) (fun k => l.length - k) 0 ?_ (by omega) ?_
      · simp (maxSteps := 4000000) only [go_sem, Nat.add_zero, delTo]
        refine weak_of [] ?_ ?_ rfl rfl <;> simp [lessT, lessM, lessB, AV.less]
        all_goals first | done | rfl
      · intro k hk
        obtain ⟨k1, k2, k3, k4⟩ := hspec k hk
        have ek : ∀ x, l[i0 + 1 + k]? = some x → delTo q l i0 (k + 1) = if q x then delTo q l i0 k else ((delTo q l i0 k).1 + 1, (delTo q l i0 k).2.set (delTo q l i0 k).1 x) := fun x hx => by rw [delTo, hx]
        obtain ⟨D, hD⟩ : ∃ D, D = delTo q l i0 k := ⟨_, rfl⟩
        rw [← hD] at k1 k2 k3 k4 ek ⊢
        obtain ⟨i, C⟩ := D
        dsimp only at k1 k2 k3 k4 ek ⊢
        simp (maxSteps := 4000000) only [go_sem, k1]
        repeat (first | refine walkL_seq ?_ | refine walkL_skip ?_ | refine walkL_block ?_ | (refine walkL_region fun K hK => ?_; simp (maxSteps := 4000000) only [go_sem, k1]; refine hK _ ?_; clear hK K) | refine walkL_nil ?_ | refine walkL_ret ?_ | refine walkL_exit ?_ | refine blockA_here ?_ | refine blockA_other rfl ?_ | refine blockA_ret ?_ | refine blockA_normal ?_ | refine thenA_ret ?_ | refine thenA_exit ?_ | refine thenA_normal ?_)
        refine walkL_cond rfl (fun hb => ?_) (fun hb => ?_)
        · have hlt : i0 + 1 + k < l.length := by have := of_decide_eq_true hb; omega
          obtain ⟨x, hx⟩ : ∃ x, l[i0 + 1 + k]? = some x := ⟨_, List.getElem?_eq_getElem hlt⟩
          have hC : C[i0 + 1 + k]? = some x := by rw [k4 _ (Nat.le_refl _)]; exact hx
          have g1 := ruleRows_at hC
          have hlc : i0 + 1 + k < C.length := by omega
          have hic : i < C.length := by omega
          have hqx := hq x (List.mem_of_getElem? hx)
          have hek := ek x hx
          have w1 : IntKind.i64.wrap (((i0 + 1 + k : Nat) : Int) + 1) = ((i0 + 1 + (k + 1) : Nat) : Int) := by rw [wr_small (by omega)]; omega
          have w2 : IntKind.i64.wrap ((i : Int) + 1) = ((i + 1 : Nat) : Int) := by rw [wr_small (by omega)]; omega
          obtain ⟨j, hj⟩ : ∃ j, j = i0 + 1 + k := ⟨_, rfl⟩
          rw [← hj] at g1 hlc w1 ⊢
          obtain ⟨y, hy⟩ : ∃ y, (ruleRows C)[i]? = some y ∧ y.length = 6 := by
            obtain ⟨z, hz⟩ : ∃ z, C[i]? = some z := ⟨_, List.getElem?_eq_getElem hic⟩
            exact ⟨_, ruleRows_at hz, rfl⟩
          repeat (first | refine walkL_seq ?_ | refine walkL_skip ?_ | refine walkL_block ?_ | (refine walkL_region fun K hK => ?_; simp (maxSteps := 4000000) only [go_sem, g1, hlc, hic, Rule.row]; refine hK _ ?_; clear hK K) | refine walkL_nil ?_ | refine walkL_ret ?_ | refine walkL_exit ?_ | refine blockA_here ?_ | refine blockA_other rfl ?_ | refine blockA_ret ?_ | refine blockA_normal ?_ | refine thenA_ret ?_ | refine thenA_exit ?_ | refine thenA_normal ?_)
          refine walkL_region fun K hK => ?_
          simp (maxSteps := 4000000) only [go_sem]
          rw [Rule.row] at hqx
          refine ⟨_, .lent (hf := hqx) (hd := reify_caps _ _ _ _ rfl) (hr := rfl), ?_⟩
          simp (maxSteps := 4000000) only [go_sem]
          refine hK _ ?_
          clear hK K
          cases qx : q x
          · rw [qx] at hek
            simp only [Bool.false_eq_true, if_false] at hek
            have g2 := hy.1
            have hy6 := hy.2
            match y, hy6 with
            | [y1, y2, y3, y4, y5, y6], _ =>
            have e5 : (ruleRows C).set i [.i x.path, .i x.after, .i x.lim.wind, .i x.lim.rain, .i x.lim.temp.lo, .i x.lim.temp.hi] = ruleRows (C.set i x) := ruleRows_set C i x
            repeat (first | refine walkL_true rfl ?_ | refine walkL_false rfl ?_ | refine walkL_seq ?_ | refine walkL_skip ?_ | refine walkL_block ?_ | (refine walkL_region fun K hK => ?_; simp (maxSteps := 4000000) only [go_sem, g1, g2, hlc, hic, w1, w2]; refine hK _ ?_; clear hK K) | refine walkL_nil ?_ | refine walkL_ret ?_ | refine walkL_exit ?_ | refine blockA_here ?_ | refine blockA_other rfl ?_ | refine blockA_ret ?_ | refine blockA_normal ?_ | refine thenA_ret ?_ | refine thenA_exit ?_ | refine thenA_normal ?_)
            refine ⟨rfl, k + 1, ?_, by omega, by omega⟩
            rw [hek]
            dsimp only
            rw [← e5]
            refine weak_of [] ?_ ?_ rfl rfl <;> simp [lessT, lessM, lessB, AV.less]
            all_goals first | done | rfl
          · rw [qx] at hek
            simp only [if_true] at hek
            repeat (first | refine walkL_true rfl ?_ | refine walkL_false rfl ?_ | refine walkL_seq ?_ | refine walkL_skip ?_ | refine walkL_block ?_ | (refine walkL_region fun K hK => ?_; simp (maxSteps := 4000000) only [go_sem, w1]; refine hK _ ?_; clear hK K) | refine walkL_nil ?_ | refine walkL_ret ?_ | refine walkL_exit ?_ | refine blockA_here ?_ | refine blockA_other rfl ?_ | refine blockA_ret ?_ | refine blockA_normal ?_ | refine thenA_ret ?_ | refine thenA_exit ?_ | refine thenA_normal ?_)
            refine ⟨rfl, k + 1, ?_, by omega, by omega⟩
            rw [hek]
            refine weak_of [] ?_ ?_ rfl rfl <;> simp [lessT, lessM, lessB, AV.less]
            all_goals first | done | rfl
        · have hkl : k = l.length - i0 - 1 := by have := of_decide_eq_false hb; omega
          rw [hkl, ← hE] at hD
          rw [← hD] at e1 e2 e3 ⊢
          dsimp only at e1 e2 e3 ⊢
          have v0 : (0 : Int) ≤ (i : Int) ∧ (i : Int) ≤ (l.length : Int) := by omega
          have v1 : i ≤ l.length := by omega
          have v2 : i + (l.length - i) ≤ l.length := by omega
          have v3 : (6 : Nat) = 6 ∧ i + (l.length - i) ≤ l.length := ⟨rfl, v2⟩
          have v4 : ((List.take i (ruleRows C)).length + ((l.length - i) + (List.drop (i + (l.length - i)) (ruleRows C)).length)) = l.length := by simp [ruleRows, k1]; omega
          repeat (first | refine walkL_seq ?_ | refine walkL_skip ?_ | refine walkL_block ?_ | (refine walkL_region fun K hK => ?_; simp (maxSteps := 4000000) only [go_sem, k1, v0, v1, v2, v3, v4, noRule_row]; refine hK _ ?_; clear hK K) | refine walkL_nil ?_ | refine walkL_ret ?_ | refine walkL_exit ?_ | refine blockA_here ?_ | refine blockA_other rfl ?_ | refine blockA_ret ?_ | refine blockA_normal ?_ | refine thenA_ret ?_ | refine thenA_exit ?_ | refine thenA_normal ?_)
          simp (maxSteps := 4000000) only [go_sem, retG, v4, v1, Nat.sub_zero]
end Go.Ab
