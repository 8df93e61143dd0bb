/- A walk engine over abstract states, and the contracts of the functions that the statement reaches: part 6. -/
import Derived.Test.YtlcbalngfpgjdaaWe
set_option linter.unusedVariables false
set_option linter.unusedSimpArgs false
namespace Go.Ab
open Go.RowKit Go.Proofs
set_option maxHeartbeats 16000000
set_option maxRecDepth 20000
attribute [local irreducible] WalkL Walk

/-! ### PowerEasier -/

structure EaseX where
  charge : Int
  gas : Int
  rate : Int
  units : Int
  hour : Int
  need : Int
  seen : List Sight
def EaseX.cells (x : EaseX) : List DV := [.i x.charge, .i x.gas, .i x.rate, .i x.units, .i x.hour, .i x.need, .sl (sightRows x.seen)]

theorem sightRows_app (a b : List Sight) : sightRows a ++ sightRows b = sightRows (a ++ b) := by simp [sightRows]

def badEase (p : Plant) (x : EaseX) : Bool :=
  !validB p || (decide (x.charge < 0) || (decide (x.gas < 0) || (decide (x.rate < 0) || (decide (x.units < 0) || (decide (x.need < 0) || (decide (x.charge > 100000) || (decide (x.gas > 10000) || (decide (x.rate > 2) || (decide (x.units > 200) || decide ((x.seen.length : Int) > 1))))))))))

def lessNeeds (p : Plant) (x : EaseX) : List Int := if 0 ≤ x.hour ∧ x.hour < p.needs.length then p.needs.set x.hour.toNat (max 0 (getI p.needs x.hour - x.need)) else p.needs
def easedP (p : Plant) (x : EaseX) (N : List Int) : Plant := { p with charge := min p.capacity (p.charge + x.charge), gas := min 10000 (p.gas + x.gas), rate := min 2 (p.rate + x.rate), units := min 200 (p.units + x.units), needs := N, seen := p.seen ++ x.seen }

theorem lessNeeds_len (p : Plant) (x : EaseX) : (lessNeeds p x).length = p.needs.length := by unfold lessNeeds; split <;> simp

theorem lessNeeds_le {p : Plant} (hg : PlantGood p) {x : EaseX} (hx : 0 ≤ x.need) (j : Nat) : getI (lessNeeds p x) (j : Int) ≤ getI p.needs (j : Int) := by
  unfold lessNeeds
  split
  · rename_i h
    rw [getI_set (by omega)]
    have h0 := getI_in hg.needsIn (by decide) (j : Int)
    split
    · rename_i hj
      have : x.hour = (j : Int) := by omega
      rw [this]
      omega
    · exact Int.le_refl _
  · exact Int.le_refl _

theorem f3 (p : Plant) (x : EaseX) (hs : PlantSmall p) (hxs : x.seen.length < 2 ^ 30) (hxn : x.need < 2 ^ 63) : Fn Try.prog 3 [.agg p.cells, .agg x.cells] (.bool true) := by
  have h14 := f14 p hs
  have h15 := f15
  have h16 := f16m p hs
  have h17 := f17 p hs
  have hps := hs.seen
  obtain ⟨N, hN⟩ : ∃ N, N = lessNeeds p x := ⟨_, rfl⟩
  have hNl : N.length = p.needs.length := by rw [hN, lessNeeds_len]
  obtain ⟨bad, hbad⟩ : ∃ b, b = badEase p x := ⟨_, rfl⟩
  cases bad
  case true =>
    rw [Plant.cells] at h14
    refine fn_walk 180 Try.call3 Try.func3 rfl (by decide) fun J => ?_
    simp (maxSteps := 4000000) only [go_sem, St.start, Try.ntmps3, Try.results3, Plant.cells, EaseX.cells]
    repeat (first | refine walkL_seq ?_ | refine walkL_skip ?_ | refine walkL_block ?_ | (refine walkL_region fun K hK => ?_; simp (maxSteps := 4000000) only [go_sem]; refine hK _ ?_; clear hK K) | refine walkL_nil ?_ | refine walkL_ret ?_ | refine walkL_exit ?_ | refine blockA_here ?_ | refine blockA_other rfl ?_ | refine blockA_ret ?_ | refine blockA_normal ?_ | refine thenA_ret ?_ | refine thenA_exit ?_ | refine thenA_normal ?_)
    refine walkL_meetS [(65, .d (.bool (badEase p x)))] [] ?_ ?_
    · refine walkL_region fun K hK => ?_
      simp (maxSteps := 4000000) only [go_sem]
      refine ⟨_, .lent (hf := h14) (hd := rfl) (hr := rfl), ?_⟩
      simp (maxSteps := 4000000) only [go_sem]
      by_cases ho0 : (!validB p) = true
      · simp (maxSteps := 4000000) only [go_sem, ho0]
        refine hK _ ?_
        clear hK K
        refine walkL_nil ?_
        refine thenA_normal ?_
        refine ⟨rfl, ?_⟩
        rw [show (badEase p x) = (true) from by simp [badEase, ho0]]
        simp (maxSteps := 4000000) only [go_sem]
        refine weak_of [] ?_ ?_ rfl rfl <;> simp [lessT, lessM, lessB, AV.less]
      · simp (maxSteps := 4000000) only [go_sem, ho0]
        by_cases ho1 : (decide (x.charge < 0)) = true
        · simp (maxSteps := 4000000) only [go_sem, ho0, ho1]
          refine hK _ ?_
          clear hK K
          refine walkL_nil ?_
          refine thenA_normal ?_
          refine ⟨rfl, ?_⟩
          rw [show (badEase p x) = (true) from by simp [badEase, ho0, ho1]]
          simp (maxSteps := 4000000) only [go_sem]
          refine weak_of [] ?_ ?_ rfl rfl <;> simp [lessT, lessM, lessB, AV.less]
        · simp (maxSteps := 4000000) only [go_sem, ho0, ho1]
          by_cases ho2 : (decide (x.gas < 0)) = true
          · simp (maxSteps := 4000000) only [go_sem, ho0, ho1, ho2]
            refine hK _ ?_
            clear hK K
            refine walkL_nil ?_
            refine thenA_normal ?_
            refine ⟨rfl, ?_⟩
            rw [show (badEase p x) = (true) from by simp [badEase, ho0, ho1, ho2]]
            simp (maxSteps := 4000000) only [go_sem]
            refine weak_of [] ?_ ?_ rfl rfl <;> simp [lessT, lessM, lessB, AV.less]
          · simp (maxSteps := 4000000) only [go_sem, ho0, ho1, ho2]
            by_cases ho3 : (decide (x.rate < 0)) = true
            · simp (maxSteps := 4000000) only [go_sem, ho0, ho1, ho2, ho3]
              refine hK _ ?_
              clear hK K
              refine walkL_nil ?_
              refine thenA_normal ?_
              refine ⟨rfl, ?_⟩
              rw [show (badEase p x) = (true) from by simp [badEase, ho0, ho1, ho2, ho3]]
              simp (maxSteps := 4000000) only [go_sem]
              refine weak_of [] ?_ ?_ rfl rfl <;> simp [lessT, lessM, lessB, AV.less]
            · simp (maxSteps := 4000000) only [go_sem, ho0, ho1, ho2, ho3]
              by_cases ho4 : (decide (x.units < 0)) = true
              · simp (maxSteps := 4000000) only [go_sem, ho0, ho1, ho2, ho3, ho4]
                refine hK _ ?_
                clear hK K
                refine walkL_nil ?_
                refine thenA_normal ?_
                refine ⟨rfl, ?_⟩
                rw [show (badEase p x) = (true) from by simp [badEase, ho0, ho1, ho2, ho3, ho4]]
                simp (maxSteps := 4000000) only [go_sem]
                refine weak_of [] ?_ ?_ rfl rfl <;> simp [lessT, lessM, lessB, AV.less]
              · simp (maxSteps := 4000000) only [go_sem, ho0, ho1, ho2, ho3, ho4]
                by_cases ho5 : (decide (x.need < 0)) = true
                · simp (maxSteps := 4000000) only [go_sem, ho0, ho1, ho2, ho3, ho4, ho5]
                  refine hK _ ?_
                  clear hK K
                  refine walkL_nil ?_
                  refine thenA_normal ?_
                  refine ⟨rfl, ?_⟩
                  rw [show (badEase p x) = (true) from by simp [badEase, ho0, ho1, ho2, ho3, ho4, ho5]]
                  simp (maxSteps := 4000000) only [go_sem]
                  refine weak_of [] ?_ ?_ rfl rfl <;> simp [lessT, lessM, lessB, AV.less]
                · simp (maxSteps := 4000000) only [go_sem, ho0, ho1, ho2, ho3, ho4, ho5]
                  by_cases ho6 : (decide (x.charge > 100000)) = true
                  · simp (maxSteps := 4000000) only [go_sem, ho0, ho1, ho2, ho3, ho4, ho5, ho6]
                    refine hK _ ?_
                    clear hK K
                    refine walkL_nil ?_
                    refine thenA_normal ?_
                    refine ⟨rfl, ?_⟩
                    rw [show (badEase p x) = (true) from by simp [badEase, ho0, ho1, ho2, ho3, ho4, ho5, ho6]]
                    simp (maxSteps := 4000000) only [go_sem]
                    refine weak_of [] ?_ ?_ rfl rfl <;> simp [lessT, lessM, lessB, AV.less]
                  · simp (maxSteps := 4000000) only [go_sem, ho0, ho1, ho2, ho3, ho4, ho5, ho6]
                    by_cases ho7 : (decide (x.gas > 10000)) = true
                    · simp (maxSteps := 4000000) only [go_sem, ho0, ho1, ho2, ho3, ho4, ho5, ho6, ho7]
                      refine hK _ ?_
                      clear hK K
                      refine walkL_nil ?_
                      refine thenA_normal ?_
                      refine ⟨rfl, ?_⟩
                      rw [show (badEase p x) = (true) from by simp [badEase, ho0, ho1, ho2, ho3, ho4, ho5, ho6, ho7]]
                      simp (maxSteps := 4000000) only [go_sem]
                      refine weak_of [] ?_ ?_ rfl rfl <;> simp [lessT, lessM, lessB, AV.less]
                    · simp (maxSteps := 4000000) only [go_sem, ho0, ho1, ho2, ho3, ho4, ho5, ho6, ho7]
                      by_cases ho8 : (decide (x.rate > 2)) = true
                      · simp (maxSteps := 4000000) only [go_sem, ho0, ho1, ho2, ho3, ho4, ho5, ho6, ho7, ho8]
                        refine hK _ ?_
                        clear hK K
                        refine walkL_nil ?_
                        refine thenA_normal ?_
                        refine ⟨rfl, ?_⟩
                        rw [show (badEase p x) = (true) from by simp [badEase, ho0, ho1, ho2, ho3, ho4, ho5, ho6, ho7, ho8]]
                        simp (maxSteps := 4000000) only [go_sem]
                        refine weak_of [] ?_ ?_ rfl rfl <;> simp [lessT, lessM, lessB, AV.less]
                      · simp (maxSteps := 4000000) only [go_sem, ho0, ho1, ho2, ho3, ho4, ho5, ho6, ho7, ho8]
                        by_cases ho9 : (decide (x.units > 200)) = true
                        · simp (maxSteps := 4000000) only [go_sem, ho0, ho1, ho2, ho3, ho4, ho5, ho6, ho7, ho8, ho9]
                          refine hK _ ?_
                          clear hK K
                          refine walkL_nil ?_
                          refine thenA_normal ?_
                          refine ⟨rfl, ?_⟩
                          rw [show (badEase p x) = (true) from by simp [badEase, ho0, ho1, ho2, ho3, ho4, ho5, ho6, ho7, ho8, ho9]]
                          simp (maxSteps := 4000000) only [go_sem]
                          refine weak_of [] ?_ ?_ rfl rfl <;> simp [lessT, lessM, lessB, AV.less]
                        · simp (maxSteps := 4000000) only [go_sem, ho0, ho1, ho2, ho3, ho4, ho5, ho6, ho7, ho8, ho9]
                          refine hK _ ?_
                          clear hK K
                          refine walkL_nil ?_
                          refine thenA_normal ?_
                          refine ⟨rfl, ?_⟩
                          rw [show (badEase p x) = (decide ((x.seen.length : Int) > 1)) from by simp [badEase, ho0, ho1, ho2, ho3, ho4, ho5, ho6, ho7, ho8, ho9]]
                          simp (maxSteps := 4000000) only [go_sem]
                          refine weak_of [] ?_ ?_ rfl rfl <;> simp [lessT, lessM, lessB, AV.less]
    rw [← hbad]
    simp (maxSteps := 4000000) only [go_sem]
    repeat (first | refine walkL_true rfl ?_ | refine walkL_false rfl ?_ | refine walkL_seq ?_ | refine walkL_skip ?_ | refine walkL_block ?_ | (refine walkL_region fun K hK => ?_; simp (maxSteps := 4000000) only [go_sem]; (repeat (first | (refine ⟨_, .lent (hf := h15) (hd := rfl) (hr := rfl), ?_⟩; simp (maxSteps := 4000000) only [go_sem]) | (refine ⟨_, .given (hf := h15) (hd := rfl) (ha := rfl), ?_⟩; simp (maxSteps := 4000000) only [go_sem]))); refine hK _ ?_; clear hK K) | refine walkL_nil ?_ | refine walkL_ret ?_ | refine walkL_exit ?_ | refine blockA_here ?_ | refine blockA_other rfl ?_ | refine blockA_ret ?_ | refine blockA_normal ?_ | refine thenA_ret ?_ | refine thenA_exit ?_ | refine thenA_normal ?_)
    simp (maxSteps := 4000000) only [go_sem]
  case false =>
  have hbad' := hbad.symm
  unfold badEase at hbad'
  simp only [Bool.or_eq_false_iff, Bool.not_eq_false', decide_eq_false_iff_not] at hbad'
  obtain ⟨hv, a1, a2, a3, a4, a5, a6, a7, a8, a9, a10⟩ := hbad'
  obtain ⟨hz, hg, hH, hrt⟩ := asked hv
  have hch := hg.charge
  have hcap := hg.capacity
  have hgas := hg.gas
  have hrate := hg.rate
  have hunits := hg.units
  have hsq : PlantSmall (easedP p x N) := ⟨hs.fore, by show (p.seen ++ x.seen).length < _; rw [List.length_append]; have := (sights_spec hg.sights).2.2; omega, hs.sun, by show N.length < _; rw [hNl]; exact hs.needs⟩
  have h14q := f14 (easedP p x N) hsq
  have h17q := f17 (easedP p x N) hsq
  have w1 : IntKind.i64.wrap (p.charge + x.charge) = p.charge + x.charge := wr_small (by omega)
  have w2 : IntKind.i64.wrap (p.gas + x.gas) = p.gas + x.gas := wr_small (by omega)
  have w3 : IntKind.i64.wrap (p.rate + x.rate) = p.rate + x.rate := wr_small (by omega)
  have w4 : IntKind.i64.wrap (p.units + x.units) = p.units + x.units := wr_small (by omega)
  have e0 : (easedP p x N).cells = [.sl (scenRows p.scen), .sl (sightRows (p.seen ++ x.seen)), .sl (intRows p.sun), .i p.gain, .i p.start, .i p.stop, .i (min p.capacity (p.charge + x.charge)), .i p.capacity, .i p.reserve, .i (min 10000 (p.gas + x.gas)), .i (min 2 (p.rate + x.rate)), .i (min 200 (p.units + x.units)), .sl (intRows N)] := rfl
  have e1 : (sightRows p.seen).length + (sightRows x.seen).length ≤ 549755813888 := by rw [sightRows_len, sightRows_len]; omega
  rw [sightRows_len, sightRows_len] at e1
  rw [e0] at h14q h17q
  -- behind the last check
  have htail : ∃ (b : List Int) (m e : Int) (c : List Int) (n f : Int), planP p = (b, m, e) ∧ planP (easedP p x N) = (c, n, f) ∧ (validB (easedP p x N) = true → (e = 3 ∧ (f = 0 ∨ f = 3)) ∨ (e = 0 ∧ f = 0 ∧ n ≤ m)) := by
    by_cases hvq : validB (easedP p x N) = true
    · obtain ⟨hzq, _⟩ := asked hvq
      obtain ⟨b, m, e, c, n, f, k1, k2, k3⟩ := plan_easier (p := p) (q := easedP p x N) hz hzq rfl rfl rfl rfl rfl rfl (by show p.charge ≤ min _ _; omega) (by show p.gas ≤ min _ _; omega) (by show p.rate ≤ min _ _; omega) (by show p.units ≤ min _ _; omega)
        (fun j hj => by show getI N _ ≤ _; rw [hN]; exact lessNeeds_le hg (by omega) j) rfl (xs := x.seen) rfl
      exact ⟨b, m, e, c, n, f, k1, k2, fun _ => k3⟩
    · exact ⟨_, _, _, _, _, _, rfl, rfl, fun h => absurd h hvq⟩
  obtain ⟨b, m, e, c, n, f, k1, k2, k3⟩ := htail
  rw [k1] at h17
  rw [k2] at h17q
  dsimp only at h17 h17q
  obtain ⟨v, hvv⟩ : ∃ v, v = validB (easedP p x N) := ⟨_, rfl⟩
  rw [← hvv] at h14q k3
  have h14' := h14
  rw [hv] at h14'
  have hle : ∀ {a b : Int}, a ≤ b → decide (a ≤ b) = true := fun h => by simpa using h
  rw [Plant.cells] at h14 h14' h16 h17
  refine fn_walk 180 Try.call3 Try.func3 rfl (by decide) fun J => ?_
  simp (maxSteps := 4000000) only [go_sem, St.start, Try.ntmps3, Try.results3, Plant.cells, EaseX.cells]
  repeat (first | refine walkL_seq ?_ | refine walkL_skip ?_ | refine walkL_block ?_ | (refine walkL_region fun K hK => ?_; simp (maxSteps := 4000000) only [go_sem]; refine hK _ ?_; clear hK K) | refine walkL_nil ?_ | refine walkL_ret ?_ | refine walkL_exit ?_ | refine blockA_here ?_ | refine blockA_other rfl ?_ | refine blockA_ret ?_ | refine blockA_normal ?_ | refine thenA_ret ?_ | refine thenA_exit ?_ | refine thenA_normal ?_)
  refine walkL_meetS [(65, .d (.bool (badEase p x)))] [] ?_ ?_
  · refine walkL_region fun K hK => ?_
    simp (maxSteps := 4000000) only [go_sem]
    refine ⟨_, .lent (hf := h14) (hd := rfl) (hr := rfl), ?_⟩
    simp (maxSteps := 4000000) only [go_sem]
    by_cases ho0 : (!validB p) = true
    · simp (maxSteps := 4000000) only [go_sem, ho0]
      refine hK _ ?_
      clear hK K
      refine walkL_nil ?_
      refine thenA_normal ?_
      refine ⟨rfl, ?_⟩
      rw [show (badEase p x) = (true) from by simp [badEase, ho0]]
      simp (maxSteps := 4000000) only [go_sem]
      refine weak_of [] ?_ ?_ rfl rfl <;> simp [lessT, lessM, lessB, AV.less]
    · simp (maxSteps := 4000000) only [go_sem, ho0]
      by_cases ho1 : (decide (x.charge < 0)) = true
      · simp (maxSteps := 4000000) only [go_sem, ho0, ho1]
        refine hK _ ?_
        clear hK K
        refine walkL_nil ?_
        refine thenA_normal ?_
        refine ⟨rfl, ?_⟩
        rw [show (badEase p x) = (true) from by simp [badEase, ho0, ho1]]
        simp (maxSteps := 4000000) only [go_sem]
        refine weak_of [] ?_ ?_ rfl rfl <;> simp [lessT, lessM, lessB, AV.less]
      · simp (maxSteps := 4000000) only [go_sem, ho0, ho1]
        by_cases ho2 : (decide (x.gas < 0)) = true
        · simp (maxSteps := 4000000) only [go_sem, ho0, ho1, ho2]
          refine hK _ ?_
          clear hK K
          refine walkL_nil ?_
          refine thenA_normal ?_
          refine ⟨rfl, ?_⟩
          rw [show (badEase p x) = (true) from by simp [badEase, ho0, ho1, ho2]]
          simp (maxSteps := 4000000) only [go_sem]
          refine weak_of [] ?_ ?_ rfl rfl <;> simp [lessT, lessM, lessB, AV.less]
        · simp (maxSteps := 4000000) only [go_sem, ho0, ho1, ho2]
          by_cases ho3 : (decide (x.rate < 0)) = true
          · simp (maxSteps := 4000000) only [go_sem, ho0, ho1, ho2, ho3]
            refine hK _ ?_
            clear hK K
            refine walkL_nil ?_
            refine thenA_normal ?_
            refine ⟨rfl, ?_⟩
            rw [show (badEase p x) = (true) from by simp [badEase, ho0, ho1, ho2, ho3]]
            simp (maxSteps := 4000000) only [go_sem]
            refine weak_of [] ?_ ?_ rfl rfl <;> simp [lessT, lessM, lessB, AV.less]
          · simp (maxSteps := 4000000) only [go_sem, ho0, ho1, ho2, ho3]
            by_cases ho4 : (decide (x.units < 0)) = true
            · simp (maxSteps := 4000000) only [go_sem, ho0, ho1, ho2, ho3, ho4]
              refine hK _ ?_
              clear hK K
              refine walkL_nil ?_
              refine thenA_normal ?_
              refine ⟨rfl, ?_⟩
              rw [show (badEase p x) = (true) from by simp [badEase, ho0, ho1, ho2, ho3, ho4]]
              simp (maxSteps := 4000000) only [go_sem]
              refine weak_of [] ?_ ?_ rfl rfl <;> simp [lessT, lessM, lessB, AV.less]
            · simp (maxSteps := 4000000) only [go_sem, ho0, ho1, ho2, ho3, ho4]
              by_cases ho5 : (decide (x.need < 0)) = true
              · simp (maxSteps := 4000000) only [go_sem, ho0, ho1, ho2, ho3, ho4, ho5]
                refine hK _ ?_
                clear hK K
                refine walkL_nil ?_
                refine thenA_normal ?_
                refine ⟨rfl, ?_⟩
                rw [show (badEase p x) = (true) from by simp [badEase, ho0, ho1, ho2, ho3, ho4, ho5]]
                simp (maxSteps := 4000000) only [go_sem]
                refine weak_of [] ?_ ?_ rfl rfl <;> simp [lessT, lessM, lessB, AV.less]
              · simp (maxSteps := 4000000) only [go_sem, ho0, ho1, ho2, ho3, ho4, ho5]
                by_cases ho6 : (decide (x.charge > 100000)) = true
                · simp (maxSteps := 4000000) only [go_sem, ho0, ho1, ho2, ho3, ho4, ho5, ho6]
                  refine hK _ ?_
                  clear hK K
                  refine walkL_nil ?_
                  refine thenA_normal ?_
                  refine ⟨rfl, ?_⟩
                  rw [show (badEase p x) = (true) from by simp [badEase, ho0, ho1, ho2, ho3, ho4, ho5, ho6]]
                  simp (maxSteps := 4000000) only [go_sem]
                  refine weak_of [] ?_ ?_ rfl rfl <;> simp [lessT, lessM, lessB, AV.less]
                · simp (maxSteps := 4000000) only [go_sem, ho0, ho1, ho2, ho3, ho4, ho5, ho6]
                  by_cases ho7 : (decide (x.gas > 10000)) = true
                  · simp (maxSteps := 4000000) only [go_sem, ho0, ho1, ho2, ho3, ho4, ho5, ho6, ho7]
                    refine hK _ ?_
                    clear hK K
                    refine walkL_nil ?_
                    refine thenA_normal ?_
                    refine ⟨rfl, ?_⟩
                    rw [show (badEase p x) = (true) from by simp [badEase, ho0, ho1, ho2, ho3, ho4, ho5, ho6, ho7]]
                    simp (maxSteps := 4000000) only [go_sem]
                    refine weak_of [] ?_ ?_ rfl rfl <;> simp [lessT, lessM, lessB, AV.less]
                  · simp (maxSteps := 4000000) only [go_sem, ho0, ho1, ho2, ho3, ho4, ho5, ho6, ho7]
                    by_cases ho8 : (decide (x.rate > 2)) = true
                    · simp (maxSteps := 4000000) only [go_sem, ho0, ho1, ho2, ho3, ho4, ho5, ho6, ho7, ho8]
                      refine hK _ ?_
                      clear hK K
                      refine walkL_nil ?_
                      refine thenA_normal ?_
                      refine ⟨rfl, ?_⟩
                      rw [show (badEase p x) = (true) from by simp [badEase, ho0, ho1, ho2, ho3, ho4, ho5, ho6, ho7, ho8]]
                      simp (maxSteps := 4000000) only [go_sem]
                      refine weak_of [] ?_ ?_ rfl rfl <;> simp [lessT, lessM, lessB, AV.less]
                    · simp (maxSteps := 4000000) only [go_sem, ho0, ho1, ho2, ho3, ho4, ho5, ho6, ho7, ho8]
                      by_cases ho9 : (decide (x.units > 200)) = true
                      · simp (maxSteps := 4000000) only [go_sem, ho0, ho1, ho2, ho3, ho4, ho5, ho6, ho7, ho8, ho9]
                        refine hK _ ?_
                        clear hK K
                        refine walkL_nil ?_
                        refine thenA_normal ?_
                        refine ⟨rfl, ?_⟩
                        rw [show (badEase p x) = (true) from by simp [badEase, ho0, ho1, ho2, ho3, ho4, ho5, ho6, ho7, ho8, ho9]]
                        simp (maxSteps := 4000000) only [go_sem]
                        refine weak_of [] ?_ ?_ rfl rfl <;> simp [lessT, lessM, lessB, AV.less]
                      · simp (maxSteps := 4000000) only [go_sem, ho0, ho1, ho2, ho3, ho4, ho5, ho6, ho7, ho8, ho9]
                        refine hK _ ?_
                        clear hK K
                        refine walkL_nil ?_
                        refine thenA_normal ?_
                        refine ⟨rfl, ?_⟩
                        rw [show (badEase p x) = (decide ((x.seen.length : Int) > 1)) from by simp [badEase, ho0, ho1, ho2, ho3, ho4, ho5, ho6, ho7, ho8, ho9]]
                        simp (maxSteps := 4000000) only [go_sem]
                        refine weak_of [] ?_ ?_ rfl rfl <;> simp [lessT, lessM, lessB, AV.less]
  rw [← hbad]
  simp (maxSteps := 4000000) only [go_sem]
  refine walkL_false rfl ?_
  repeat (first | refine walkL_seq ?_ | refine walkL_skip ?_ | refine walkL_block ?_ | (refine walkL_region fun K hK => ?_; simp (maxSteps := 4000000) only [go_sem]; refine hK _ ?_; clear hK K) | refine walkL_nil ?_ | refine walkL_ret ?_ | refine walkL_exit ?_ | refine blockA_here ?_ | refine blockA_other rfl ?_ | refine blockA_ret ?_ | refine blockA_normal ?_ | refine thenA_ret ?_ | refine thenA_exit ?_ | refine thenA_normal ?_)
  refine walkL_region fun K hK => ?_
  simp (maxSteps := 4000000) only [go_sem]
  refine ⟨_, .made (news := [177, 178, 179]) (hf := h16) (hd := rfl) (hn := by decide) (hl := rfl) (hnew := rfl) (hx := rfl), ?_⟩
  simp (maxSteps := 4000000) only [go_sem, List.map_cons, List.map_nil]
  refine hK _ ?_
  clear hK K
  repeat (first | refine walkL_seq ?_ | refine walkL_skip ?_ | refine walkL_block ?_ | (refine walkL_region fun K hK => ?_; simp (maxSteps := 4000000) only [go_sem, w1, w2, w3, w4]; refine hK _ ?_; clear hK K) | refine walkL_nil ?_ | refine walkL_ret ?_ | refine walkL_exit ?_ | refine blockA_here ?_ | refine blockA_other rfl ?_ | refine blockA_ret ?_ | refine blockA_normal ?_ | refine thenA_ret ?_ | refine thenA_exit ?_ | refine thenA_normal ?_)
  by_cases hq : 0 ≤ x.hour ∧ x.hour < p.needs.length
  · have hNe : N = p.needs.set x.hour.toNat (max 0 (getI p.needs x.hour - x.need)) := by rw [hN]; unfold lessNeeds; rw [if_pos hq]
    have d1 : decide (x.hour ≥ 0) = true := by simp; omega
    have d2 : decide (x.hour < (p.needs.length : Int)) = true := by simp; omega
    have d3 := hq.1
    have d4 : x.hour.toNat < p.needs.length := by omega
    have g1 := intRows_get (l := p.needs) d3 d4
    have hv0 := getI_in hg.needsIn (by decide) x.hour
    have w5 : IntKind.i64.wrap (getI p.needs x.hour - x.need) = getI p.needs x.hour - x.need := wr_small (by omega)
    repeat (first | refine walkL_true rfl ?_ | refine walkL_false rfl ?_ | refine walkL_seq ?_ | refine walkL_skip ?_ | refine walkL_block ?_ | (refine walkL_region fun K hK => ?_; simp (maxSteps := 4000000) only [go_sem, d1, d2, d3, d4, g1, w5, e1, intRows_set, sightRows_app, ← hNe]; refine hK _ ?_; clear hK K) | (refine walkL_drawn (by kernel_rfl) (by kernel_rfl) fun K hK => ?_; simp (maxSteps := 4000000) only [go_sem, d1, d2, d3, d4, g1, w5, e1, intRows_set, sightRows_app, ← hNe]; refine ⟨by kernel_rfl, hK _ ?_⟩; clear hK K) | refine walkL_nil ?_ | refine walkL_ret ?_ | refine walkL_exit ?_ | refine blockA_here ?_ | refine blockA_other rfl ?_ | refine blockA_ret ?_ | refine blockA_normal ?_ | refine thenA_ret ?_ | refine thenA_exit ?_ | refine thenA_normal ?_)
    cases v
    · repeat (first | refine walkL_true rfl ?_ | refine walkL_false rfl ?_ | refine walkL_seq ?_ | refine walkL_skip ?_ | refine walkL_block ?_ | (refine walkL_region fun K hK => ?_; simp (maxSteps := 4000000) only [go_sem]; (repeat (first | (refine ⟨_, .lent (hf := h14q) (hd := rfl) (hr := rfl), ?_⟩; simp (maxSteps := 4000000) only [go_sem]) | (refine ⟨_, .lent (hf := h15) (hd := rfl) (hr := rfl), ?_⟩; simp (maxSteps := 4000000) only [go_sem]) | (refine ⟨_, .given (hf := h14q) (hd := rfl) (ha := rfl), ?_⟩; simp (maxSteps := 4000000) only [go_sem]) | (refine ⟨_, .given (hf := h15) (hd := rfl) (ha := rfl), ?_⟩; simp (maxSteps := 4000000) only [go_sem]))); refine hK _ ?_; clear hK K) | refine walkL_nil ?_ | refine walkL_ret ?_ | refine walkL_exit ?_ | refine blockA_here ?_ | refine blockA_other rfl ?_ | refine blockA_ret ?_ | refine blockA_normal ?_ | refine thenA_ret ?_ | refine thenA_exit ?_ | refine thenA_normal ?_)
      simp (maxSteps := 4000000) only [go_sem]
    · rcases k3 rfl with ⟨rfl, rfl | rfl⟩ | ⟨rfl, rfl, hnm⟩
      · repeat (first | refine walkL_true rfl ?_ | refine walkL_false rfl ?_ | refine walkL_seq ?_ | refine walkL_skip ?_ | refine walkL_block ?_ | (refine walkL_region fun K hK => ?_; simp (maxSteps := 4000000) only [go_sem]; (repeat (first | (refine ⟨_, .lent (hf := h14q) (hd := rfl) (hr := rfl), ?_⟩; simp (maxSteps := 4000000) only [go_sem]) | (refine ⟨_, .lent (hf := h17) (hd := rfl) (hr := rfl), ?_⟩; simp (maxSteps := 4000000) only [go_sem]) | (refine ⟨_, .lent (hf := h17q) (hd := rfl) (hr := rfl), ?_⟩; simp (maxSteps := 4000000) only [go_sem]) | (refine ⟨_, .lent (hf := h15) (hd := rfl) (hr := rfl), ?_⟩; simp (maxSteps := 4000000) only [go_sem]) | (refine ⟨_, .given (hf := h14q) (hd := rfl) (ha := rfl), ?_⟩; simp (maxSteps := 4000000) only [go_sem]) | (refine ⟨_, .given (hf := h17) (hd := rfl) (ha := rfl), ?_⟩; simp (maxSteps := 4000000) only [go_sem]) | (refine ⟨_, .given (hf := h17q) (hd := rfl) (ha := rfl), ?_⟩; simp (maxSteps := 4000000) only [go_sem]) | (refine ⟨_, .given (hf := h15) (hd := rfl) (ha := rfl), ?_⟩; simp (maxSteps := 4000000) only [go_sem]))); refine hK _ ?_; clear hK K) | refine walkL_nil ?_ | refine walkL_ret ?_ | refine walkL_exit ?_ | refine blockA_here ?_ | refine blockA_other rfl ?_ | refine blockA_ret ?_ | refine blockA_normal ?_ | refine thenA_ret ?_ | refine thenA_exit ?_ | refine thenA_normal ?_)
        simp (maxSteps := 4000000) only [go_sem]
      · repeat (first | refine walkL_true rfl ?_ | refine walkL_false rfl ?_ | refine walkL_seq ?_ | refine walkL_skip ?_ | refine walkL_block ?_ | (refine walkL_region fun K hK => ?_; simp (maxSteps := 4000000) only [go_sem]; (repeat (first | (refine ⟨_, .lent (hf := h14q) (hd := rfl) (hr := rfl), ?_⟩; simp (maxSteps := 4000000) only [go_sem]) | (refine ⟨_, .lent (hf := h17) (hd := rfl) (hr := rfl), ?_⟩; simp (maxSteps := 4000000) only [go_sem]) | (refine ⟨_, .lent (hf := h17q) (hd := rfl) (hr := rfl), ?_⟩; simp (maxSteps := 4000000) only [go_sem]) | (refine ⟨_, .lent (hf := h15) (hd := rfl) (hr := rfl), ?_⟩; simp (maxSteps := 4000000) only [go_sem]) | (refine ⟨_, .given (hf := h14q) (hd := rfl) (ha := rfl), ?_⟩; simp (maxSteps := 4000000) only [go_sem]) | (refine ⟨_, .given (hf := h17) (hd := rfl) (ha := rfl), ?_⟩; simp (maxSteps := 4000000) only [go_sem]) | (refine ⟨_, .given (hf := h17q) (hd := rfl) (ha := rfl), ?_⟩; simp (maxSteps := 4000000) only [go_sem]) | (refine ⟨_, .given (hf := h15) (hd := rfl) (ha := rfl), ?_⟩; simp (maxSteps := 4000000) only [go_sem]))); refine hK _ ?_; clear hK K) | refine walkL_nil ?_ | refine walkL_ret ?_ | refine walkL_exit ?_ | refine blockA_here ?_ | refine blockA_other rfl ?_ | refine blockA_ret ?_ | refine blockA_normal ?_ | refine thenA_ret ?_ | refine thenA_exit ?_ | refine thenA_normal ?_)
        simp (maxSteps := 4000000) only [go_sem]
      · have hnm := hle hnm
        repeat (first | refine walkL_true rfl ?_ | refine walkL_false rfl ?_ | refine walkL_seq ?_ | refine walkL_skip ?_ | refine walkL_block ?_ | (refine walkL_region fun K hK => ?_; simp (maxSteps := 4000000) only [go_sem, hnm]; (repeat (first | (refine ⟨_, .lent (hf := h14q) (hd := rfl) (hr := rfl), ?_⟩; simp (maxSteps := 4000000) only [go_sem, hnm]) | (refine ⟨_, .lent (hf := h17) (hd := rfl) (hr := rfl), ?_⟩; simp (maxSteps := 4000000) only [go_sem, hnm]) | (refine ⟨_, .lent (hf := h17q) (hd := rfl) (hr := rfl), ?_⟩; simp (maxSteps := 4000000) only [go_sem, hnm]) | (refine ⟨_, .lent (hf := h15) (hd := rfl) (hr := rfl), ?_⟩; simp (maxSteps := 4000000) only [go_sem, hnm]) | (refine ⟨_, .given (hf := h14q) (hd := rfl) (ha := rfl), ?_⟩; simp (maxSteps := 4000000) only [go_sem, hnm]) | (refine ⟨_, .given (hf := h17) (hd := rfl) (ha := rfl), ?_⟩; simp (maxSteps := 4000000) only [go_sem, hnm]) | (refine ⟨_, .given (hf := h17q) (hd := rfl) (ha := rfl), ?_⟩; simp (maxSteps := 4000000) only [go_sem, hnm]) | (refine ⟨_, .given (hf := h15) (hd := rfl) (ha := rfl), ?_⟩; simp (maxSteps := 4000000) only [go_sem, hnm]))); refine hK _ ?_; clear hK K) | refine walkL_nil ?_ | refine walkL_ret ?_ | refine walkL_exit ?_ | refine blockA_here ?_ | refine blockA_other rfl ?_ | refine blockA_ret ?_ | refine blockA_normal ?_ | refine thenA_ret ?_ | refine thenA_exit ?_ | refine thenA_normal ?_)
        simp (maxSteps := 4000000) only [go_sem]
  · have hNe : p.needs = N := by rw [hN]; unfold lessNeeds; rw [if_neg hq]
    subst hNe
    cases d1 : decide (x.hour ≥ 0)
    all_goals
      have d2 : decide (x.hour ≥ 0) = true → decide (x.hour < (p.needs.length : Int)) = false := fun h => by
        have h := of_decide_eq_true h
        simp
        omega
      rw [d1] at d2
      try have d2 := d2 rfl
      repeat (first | refine walkL_true rfl ?_ | refine walkL_false rfl ?_ | refine walkL_seq ?_ | refine walkL_skip ?_ | refine walkL_block ?_ | (refine walkL_region fun K hK => ?_; simp (maxSteps := 4000000) only [go_sem, d1, d2, e1, sightRows_app]; refine hK _ ?_; clear hK K) | (refine walkL_drawn (by kernel_rfl) (by kernel_rfl) fun K hK => ?_; simp (maxSteps := 4000000) only [go_sem, d1, d2, e1, sightRows_app]; refine ⟨by kernel_rfl, hK _ ?_⟩; clear hK K) | refine walkL_nil ?_ | refine walkL_ret ?_ | refine walkL_exit ?_ | refine blockA_here ?_ | refine blockA_other rfl ?_ | refine blockA_ret ?_ | refine blockA_normal ?_ | refine thenA_ret ?_ | refine thenA_exit ?_ | refine thenA_normal ?_)
      cases v
      · repeat (first | refine walkL_true rfl ?_ | refine walkL_false rfl ?_ | refine walkL_seq ?_ | refine walkL_skip ?_ | refine walkL_block ?_ | (refine walkL_region fun K hK => ?_; simp (maxSteps := 4000000) only [go_sem]; (repeat (first | (refine ⟨_, .lent (hf := h14q) (hd := rfl) (hr := rfl), ?_⟩; simp (maxSteps := 4000000) only [go_sem]) | (refine ⟨_, .lent (hf := h15) (hd := rfl) (hr := rfl), ?_⟩; simp (maxSteps := 4000000) only [go_sem]) | (refine ⟨_, .given (hf := h14q) (hd := rfl) (ha := rfl), ?_⟩; simp (maxSteps := 4000000) only [go_sem]) | (refine ⟨_, .given (hf := h15) (hd := rfl) (ha := rfl), ?_⟩; simp (maxSteps := 4000000) only [go_sem]))); refine hK _ ?_; clear hK K) | refine walkL_nil ?_ | refine walkL_ret ?_ | refine walkL_exit ?_ | refine blockA_here ?_ | refine blockA_other rfl ?_ | refine blockA_ret ?_ | refine blockA_normal ?_ | refine thenA_ret ?_ | refine thenA_exit ?_ | refine thenA_normal ?_)
        simp (maxSteps := 4000000) only [go_sem]
      · rcases k3 rfl with ⟨rfl, rfl | rfl⟩ | ⟨rfl, rfl, hnm⟩
        · repeat (first | refine walkL_true rfl ?_ | refine walkL_false rfl ?_ | refine walkL_seq ?_ | refine walkL_skip ?_ | refine walkL_block ?_ | (refine walkL_region fun K hK => ?_; simp (maxSteps := 4000000) only [go_sem]; (repeat (first | (refine ⟨_, .lent (hf := h14q) (hd := rfl) (hr := rfl), ?_⟩; simp (maxSteps := 4000000) only [go_sem]) | (refine ⟨_, .lent (hf := h17) (hd := rfl) (hr := rfl), ?_⟩; simp (maxSteps := 4000000) only [go_sem]) | (refine ⟨_, .lent (hf := h17q) (hd := rfl) (hr := rfl), ?_⟩; simp (maxSteps := 4000000) only [go_sem]) | (refine ⟨_, .lent (hf := h15) (hd := rfl) (hr := rfl), ?_⟩; simp (maxSteps := 4000000) only [go_sem]) | (refine ⟨_, .given (hf := h14q) (hd := rfl) (ha := rfl), ?_⟩; simp (maxSteps := 4000000) only [go_sem]) | (refine ⟨_, .given (hf := h17) (hd := rfl) (ha := rfl), ?_⟩; simp (maxSteps := 4000000) only [go_sem]) | (refine ⟨_, .given (hf := h17q) (hd := rfl) (ha := rfl), ?_⟩; simp (maxSteps := 4000000) only [go_sem]) | (refine ⟨_, .given (hf := h15) (hd := rfl) (ha := rfl), ?_⟩; simp (maxSteps := 4000000) only [go_sem]))); refine hK _ ?_; clear hK K) | refine walkL_nil ?_ | refine walkL_ret ?_ | refine walkL_exit ?_ | refine blockA_here ?_ | refine blockA_other rfl ?_ | refine blockA_ret ?_ | refine blockA_normal ?_ | refine thenA_ret ?_ | refine thenA_exit ?_ | refine thenA_normal ?_)
          simp (maxSteps := 4000000) only [go_sem]
        · repeat (first | refine walkL_true rfl ?_ | refine walkL_false rfl ?_ | refine walkL_seq ?_ | refine walkL_skip ?_ | refine walkL_block ?_ | (refine walkL_region fun K hK => ?_; simp (maxSteps := 4000000) only [go_sem]; (repeat (first | (refine ⟨_, .lent (hf := h14q) (hd := rfl) (hr := rfl), ?_⟩; simp (maxSteps := 4000000) only [go_sem]) | (refine ⟨_, .lent (hf := h17) (hd := rfl) (hr := rfl), ?_⟩; simp (maxSteps := 4000000) only [go_sem]) | (refine ⟨_, .lent (hf := h17q) (hd := rfl) (hr := rfl), ?_⟩; simp (maxSteps := 4000000) only [go_sem]) | (refine ⟨_, .lent (hf := h15) (hd := rfl) (hr := rfl), ?_⟩; simp (maxSteps := 4000000) only [go_sem]) | (refine ⟨_, .given (hf := h14q) (hd := rfl) (ha := rfl), ?_⟩; simp (maxSteps := 4000000) only [go_sem]) | (refine ⟨_, .given (hf := h17) (hd := rfl) (ha := rfl), ?_⟩; simp (maxSteps := 4000000) only [go_sem]) | (refine ⟨_, .given (hf := h17q) (hd := rfl) (ha := rfl), ?_⟩; simp (maxSteps := 4000000) only [go_sem]) | (refine ⟨_, .given (hf := h15) (hd := rfl) (ha := rfl), ?_⟩; simp (maxSteps := 4000000) only [go_sem]))); refine hK _ ?_; clear hK K) | refine walkL_nil ?_ | refine walkL_ret ?_ | refine walkL_exit ?_ | refine blockA_here ?_ | refine blockA_other rfl ?_ | refine blockA_ret ?_ | refine blockA_normal ?_ | refine thenA_ret ?_ | refine thenA_exit ?_ | refine thenA_normal ?_)
          simp (maxSteps := 4000000) only [go_sem]
        · have hnm := hle hnm
          repeat (first | refine walkL_true rfl ?_ | refine walkL_false rfl ?_ | refine walkL_seq ?_ | refine walkL_skip ?_ | refine walkL_block ?_ | (refine walkL_region fun K hK => ?_; simp (maxSteps := 4000000) only [go_sem, hnm]; (repeat (first | (refine ⟨_, .lent (hf := h14q) (hd := rfl) (hr := rfl), ?_⟩; simp (maxSteps := 4000000) only [go_sem, hnm]) | (refine ⟨_, .lent (hf := h17) (hd := rfl) (hr := rfl), ?_⟩; simp (maxSteps := 4000000) only [go_sem, hnm]) | (refine ⟨_, .lent (hf := h17q) (hd := rfl) (hr := rfl), ?_⟩; simp (maxSteps := 4000000) only [go_sem, hnm]) | (refine ⟨_, .lent (hf := h15) (hd := rfl) (hr := rfl), ?_⟩; simp (maxSteps := 4000000) only [go_sem, hnm]) | (refine ⟨_, .given (hf := h14q) (hd := rfl) (ha := rfl), ?_⟩; simp (maxSteps := 4000000) only [go_sem, hnm]) | (refine ⟨_, .given (hf := h17) (hd := rfl) (ha := rfl), ?_⟩; simp (maxSteps := 4000000) only [go_sem, hnm]) | (refine ⟨_, .given (hf := h17q) (hd := rfl) (ha := rfl), ?_⟩; simp (maxSteps := 4000000) only [go_sem, hnm]) | (refine ⟨_, .given (hf := h15) (hd := rfl) (ha := rfl), ?_⟩; simp (maxSteps := 4000000) only [go_sem, hnm]))); refine hK _ ?_; clear hK K) | refine walkL_nil ?_ | refine walkL_ret ?_ | refine walkL_exit ?_ | refine blockA_here ?_ | refine blockA_other rfl ?_ | refine blockA_ret ?_ | refine blockA_normal ?_ | refine thenA_ret ?_ | refine thenA_exit ?_ | refine thenA_normal ?_)
          simp (maxSteps := 4000000) only [go_sem]
end Go.Ab
namespace Go.Ab
open Go.RowKit Go.Proofs Go.ChangeShapes Go.WideShapes Go.Proofs.Ytlcbalngfpgjdaa
set_option linter.unusedVariables false
set_option maxRecDepth 100000

def easeS : List Sh := [iS, iS, iS, iS, iS, iS, .sl sightS]

theorem wf_i64 {n : Int} (h : (Lit.int .i64 n).wf = true) : n < 2 ^ 63 := by
  simp [Lit.wf, IntKind.wrap_i64] at h
  omega

theorem ease_of {N : Nat} (hN : N < 2 ^ 30) {ds : List DV} (h : Sh.fitsL N easeS ds) : ∃ x : EaseX, ds = x.cells ∧ x.seen.length < 2 ^ 30 ∧ x.need < 2 ^ 63 := by
  unfold easeS at h
  rw [Sh.fitsL] at h
  obtain ⟨y0, _, rfl, k0, h⟩ := h
  rw [Sh.fitsL] at h
  obtain ⟨y1, _, rfl, k1, h⟩ := h
  rw [Sh.fitsL] at h
  obtain ⟨y2, _, rfl, k2, h⟩ := h
  rw [Sh.fitsL] at h
  obtain ⟨y3, _, rfl, k3, h⟩ := h
  rw [Sh.fitsL] at h
  obtain ⟨y4, _, rfl, k4, h⟩ := h
  rw [Sh.fitsL] at h
  obtain ⟨y5, _, rfl, k5, h⟩ := h
  rw [Sh.fitsL] at h
  obtain ⟨y6, _, rfl, k6, h⟩ := h
  rw [Sh.fitsL] at h
  subst h
  obtain ⟨S, rfl, s1⟩ := sights_of k6
  simp only [iS, Sh.fits] at k0 k1 k2 k3 k4 k5
  obtain ⟨a0, rfl, _⟩ := k0
  obtain ⟨a1, rfl, _⟩ := k1
  obtain ⟨a2, rfl, _⟩ := k2
  obtain ⟨a3, rfl, _⟩ := k3
  obtain ⟨a4, rfl, _⟩ := k4
  obtain ⟨a5, rfl, hw⟩ := k5
  exact ⟨⟨a0, a1, a2, a3, a4, a5, S⟩, rfl, by show S.length < _; omega, wf_i64 hw⟩

theorem easeSh : shapes Try.prog 20 32 = some easeS := by kernel_rfl
theorem rdEase : Rd 32 (fun d => ∃ x : EaseX, d = .agg x.cells ∧ x.seen.length < 2 ^ 30 ∧ x.need < 2 ^ 63) :=
  ⟨by kernel_rfl, of_decide_eq_true (by kernel_rfl), fun H enc w base v d ps _ h hd => by
    obtain ⟨ds, hf, hr⟩ := agg_read easeSh (by decide) h hd
    obtain ⟨x, rfl, hx⟩ := ease_of (by decide) hf
    exact ⟨_, ⟨x, rfl, hx⟩, hr⟩⟩
abbrev aE : TypeId × (DV → Prop) := (32, fun d => ∃ x : EaseX, d = .agg x.cells ∧ x.seen.length < 2 ^ 30 ∧ x.need < 2 ^ 63)
end Go.Ab
