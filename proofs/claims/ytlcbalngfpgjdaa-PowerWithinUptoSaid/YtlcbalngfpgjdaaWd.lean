/- A walk engine over abstract states, and the contracts of the functions that the statement reaches: part 4. -/
import Derived.Test.YtlcbalngfpgjdaaWc
import Derived.ChangeArms
import Derived.Test.YtlcbalngfpgjdaaRows
import Derived.JoinedCond
import Derived.Carry
import Derived.RowKit
set_option linter.unusedVariables false
set_option linter.unusedSimpArgs false
namespace Go.Ab
open Go.RowKit Go.Proofs
set_option maxHeartbeats 8000000
set_option maxRecDepth 20000
attribute [local irreducible] WalkL Walk

/-- Lengths that fit. -/
structure PlantSmall (p : Plant) : Prop where
  fore : ForeSmall p.scen
  seen : p.seen.length < 2 ^ 30
  sun : p.sun.length < 2 ^ 30
  needs : p.needs.length < 2 ^ 30

def hoursOf (p : Plant) : Int := (hd0 p.scen).length
def gridOf (p : Plant) : Grid := ⟨p, scensOf (possL p.scen p.seen), hoursOf p⟩
def plantBad (p : Plant) (H : Int) : Bool :=
  !powerB H p.sun || (!powerB H p.needs || (!withinB p.gain 0 100 || (!withinB p.start 0 p.stop || (decide (p.stop > 200) ||
  (!withinB p.capacity 0 100000 || (!withinB p.charge 0 p.capacity || (!withinB p.reserve 0 p.capacity ||
  (!withinB p.gas 0 10000 || (!withinB p.rate 0 10 || !withinB p.units 0 200)))))))))
def openE (p : Plant) (burns : List (List Int)) : Int :=
  if lookF p.scen p.seen 0 true = 0 then (if plantBad p (hoursOf p) then 100 else if burns.any (fun l => !burnB (gridOf p) l) then 101 else 0) else lookF p.scen p.seen 0 true

theorem poss_get {seen : List Sight} : ∀ (F : List (List Hour)) (j i : Nat) (k : Nat) (l' : List Hour), (possFrom seen F j)[i]? = some (k, l') → ∃ l, j ≤ k ∧ F[k - j]? = some l ∧ l' = seenHours seen l ∧ agreesB seen l = true
  | [], _, _, _, _, h => by simp [possFrom] at h
  | l :: F, j, i, k, l', h => by
    rw [possFrom] at h
    have rest : ∀ i : Nat, (possFrom seen F (j + 1))[i]? = some (k, l') → ∃ l2, j ≤ k ∧ (l :: F)[k - j]? = some l2 ∧ l' = seenHours seen l2 ∧ agreesB seen l2 = true := by
      intro i h
      obtain ⟨l2, h1, h2, h3, h4⟩ := poss_get F (j + 1) i k l' h
      refine ⟨l2, by omega, ?_, h3, h4⟩
      rw [show k - j = (k - (j + 1)) + 1 by omega, List.getElem?_cons_succ]
      exact h2
    split at h
    · rename_i ha
      cases i with
      | zero => simp at h; obtain ⟨rfl, rfl⟩ := h; exact ⟨l, Nat.le_refl _, by simp, rfl, ha⟩
      | succ i => exact rest i (by simpa using h)
    · exact rest i h

theorem look_zero {F : List (List Hour)} {seen : List Sight} (h : lookF F seen 0 true = 0) : ForeGood F ∧ sightsB (hd0 F).length seen = true ∧ possL F seen ≠ [] := by
  unfold lookF at h
  cases hb : badF F with
  | true => rw [hb, if_pos rfl] at h; cases h
  | false =>
    rw [hb] at h
    simp only [Bool.false_eq_true, if_false, if_true] at h
    cases hs : sightsB (hd0 F).length seen with
    | false => rw [hs] at h; simp at h
    | true =>
      rw [hs] at h
      simp only [if_true] at h
      cases hp : possL F seen with
      | nil => rw [hp] at h; simp at h
      | cons x xs => exact ⟨fore_iff.1 hb, rfl, by simp⟩

theorem openE_bad {p : Plant} (burns : List (List Int)) (h : lookF p.scen p.seen 0 true = 0) (hb : plantBad p (hoursOf p) = true) : openE p burns = 100 := by
  rw [openE, if_pos h, if_pos hb]

theorem f44 (p : Plant) (burns : List (List Int)) (hs : PlantSmall p) (hbl : burns.length < 2 ^ 30) (hbs : ∀ l ∈ burns, l.length < 2 ^ 30) :
    Fn Try.prog 44 [.agg p.cells, .sl (listRows burns)] (.tup [if openE p burns = 0 then .ptr (gridOf p).cells 0 else .nilptr, .i (openE p burns)]) := by
  have h76 := f76 p.scen p.seen hs.fore hs.seen
  refine fn_walk 148 Try.call44 Try.func44 rfl (by decide) fun J => ?_
  simp (maxSteps := 4000000) only [go_sem, St.start, Try.ntmps44, Try.results44, Plant.cells]
  by_cases hlk : lookF p.scen p.seen 0 true = 0
  · rw [if_pos hlk, hlk] at h76
    obtain ⟨hg, hsi, hpn⟩ := look_zero hlk
    have hF := hg.scen
    have hH := hg.hours
    have h0 : p.scen[0]? = some (hd0 p.scen) := headD_get (by omega)
    obtain ⟨H0, hH0⟩ : ∃ H0, H0 = hd0 p.scen := ⟨_, rfl⟩
    have hhr : hoursOf p = (H0.length : Int) := by rw [hoursOf, hH0]
    rw [← hH0] at h0 hH hsi
    have g0 := scenRows_at h0
    obtain ⟨s1, s2, s3⟩ := sights_spec hsi
    have h77 := fun l hl => f77 ⟨p, [], (H0.length : Int)⟩ l hl
    have h77a := h77 p.sun hs.sun
    have h77b := h77 p.needs hs.needs
    have e0 : scenRows [] = [] := rfl
    simp only [Grid.cells, e0] at h77a h77b
    have k1 := f80 p.gain 0 100
    have k2 := f80 p.start 0 p.stop
    have k4 := f80 p.capacity 0 100000
    have k5 := f80 p.charge 0 p.capacity
    have k6 := f80 p.reserve 0 p.capacity
    have k7 := f80 p.gas 0 10000
    have k8 := f80 p.rate 0 10
    have k9 := f80 p.units 0 200
    repeat (first | refine walkL_true rfl ?_ | refine walkL_false rfl ?_ | refine walkL_seq ?_ | refine walkL_skip ?_ | refine walkL_block ?_ | (refine walkL_region fun K hK => ?_; simp (maxSteps := 4000000) only [go_sem]; (repeat (first | (refine ⟨_, .lent (hf := h76) (hd := rfl) (hr := rfl), ?_⟩; simp (maxSteps := 4000000) only [go_sem]) | (refine ⟨_, .given (hf := h76) (hd := rfl) (ha := rfl), ?_⟩; simp (maxSteps := 4000000) only [go_sem]))); refine hK _ ?_; clear hK K) | refine walkL_nil ?_ | refine walkL_ret ?_ | refine walkL_exit ?_ | refine blockA_here ?_ | refine blockA_other rfl ?_ | refine blockA_ret ?_ | refine blockA_normal ?_ | refine thenA_ret ?_ | refine thenA_exit ?_ | refine thenA_normal ?_)
    refine walkL_drawn (by kernel_rfl) (by kernel_rfl) fun K hK => ?_
    simp (maxSteps := 4000000) only [go_sem, g0]
    refine ⟨by kernel_rfl, hK _ ?_⟩
    clear hK K
    repeat (first | refine walkL_true rfl ?_ | refine walkL_false rfl ?_ | refine walkL_seq ?_ | refine walkL_skip ?_ | refine walkL_block ?_ | (refine walkL_region fun K hK => ?_; simp (maxSteps := 4000000) only [go_sem]; refine hK _ ?_; clear hK K) | refine walkL_nil ?_ | refine walkL_ret ?_ | refine walkL_exit ?_ | refine blockA_here ?_ | refine blockA_other rfl ?_ | refine blockA_ret ?_ | refine blockA_normal ?_ | refine thenA_ret ?_ | refine thenA_exit ?_ | refine thenA_normal ?_)
    cases q1 : powerB (H0.length : Int) p.sun
    · rw [q1] at h77a
      have e := openE_bad burns hlk (by simp [plantBad, hhr, q1])
      rw [e, if_neg (by decide)]
      repeat (first | refine walkL_true rfl ?_ | refine walkL_false rfl ?_ | refine walkL_seq ?_ | refine walkL_skip ?_ | refine walkL_block ?_ | (refine walkL_region fun K hK => ?_; simp (maxSteps := 4000000) only [go_sem]; (repeat (first | (refine ⟨_, .lent (hf := h77a) (hd := rfl) (hr := rfl), ?_⟩; simp (maxSteps := 4000000) only [go_sem]) | (refine ⟨_, .given (hf := h77a) (hd := rfl) (ha := rfl), ?_⟩; simp (maxSteps := 4000000) only [go_sem]))); refine hK _ ?_; clear hK K) | refine walkL_nil ?_ | refine walkL_ret ?_ | refine walkL_exit ?_ | refine blockA_here ?_ | refine blockA_other rfl ?_ | refine blockA_ret ?_ | refine blockA_normal ?_ | refine thenA_ret ?_ | refine thenA_exit ?_ | refine thenA_normal ?_)
      simp (maxSteps := 4000000) only [go_sem]
    rw [q1] at h77a
    repeat (first | refine walkL_true rfl ?_ | refine walkL_false rfl ?_ | refine walkL_seq ?_ | refine walkL_skip ?_ | refine walkL_block ?_ | (refine walkL_region fun K hK => ?_; simp (maxSteps := 4000000) only [go_sem]; (repeat (first | (refine ⟨_, .lent (hf := h77a) (hd := rfl) (hr := rfl), ?_⟩; simp (maxSteps := 4000000) only [go_sem]) | (refine ⟨_, .given (hf := h77a) (hd := rfl) (ha := rfl), ?_⟩; simp (maxSteps := 4000000) only [go_sem]))); refine hK _ ?_; clear hK K) | refine walkL_nil ?_ | refine walkL_ret ?_ | refine walkL_exit ?_ | refine blockA_here ?_ | refine blockA_other rfl ?_ | refine blockA_ret ?_ | refine blockA_normal ?_ | refine thenA_ret ?_ | refine thenA_exit ?_ | refine thenA_normal ?_)
    cases q2 : powerB (H0.length : Int) p.needs
    · rw [q2] at h77b
      have e := openE_bad burns hlk (by simp [plantBad, hhr, q2])
      rw [e, if_neg (by decide)]
      repeat (first | refine walkL_true rfl ?_ | refine walkL_false rfl ?_ | refine walkL_seq ?_ | refine walkL_skip ?_ | refine walkL_block ?_ | (refine walkL_region fun K hK => ?_; simp (maxSteps := 4000000) only [go_sem]; (repeat (first | (refine ⟨_, .lent (hf := h77b) (hd := rfl) (hr := rfl), ?_⟩; simp (maxSteps := 4000000) only [go_sem]) | (refine ⟨_, .given (hf := h77b) (hd := rfl) (ha := rfl), ?_⟩; simp (maxSteps := 4000000) only [go_sem]))); refine hK _ ?_; clear hK K) | refine walkL_nil ?_ | refine walkL_ret ?_ | refine walkL_exit ?_ | refine blockA_here ?_ | refine blockA_other rfl ?_ | refine blockA_ret ?_ | refine blockA_normal ?_ | refine thenA_ret ?_ | refine thenA_exit ?_ | refine thenA_normal ?_)
      simp (maxSteps := 4000000) only [go_sem]
    rw [q2] at h77b
    repeat (first | refine walkL_true rfl ?_ | refine walkL_false rfl ?_ | refine walkL_seq ?_ | refine walkL_skip ?_ | refine walkL_block ?_ | (refine walkL_region fun K hK => ?_; simp (maxSteps := 4000000) only [go_sem]; (repeat (first | (refine ⟨_, .lent (hf := h77b) (hd := rfl) (hr := rfl), ?_⟩; simp (maxSteps := 4000000) only [go_sem]) | (refine ⟨_, .given (hf := h77b) (hd := rfl) (ha := rfl), ?_⟩; simp (maxSteps := 4000000) only [go_sem]))); refine hK _ ?_; clear hK K) | refine walkL_nil ?_ | refine walkL_ret ?_ | refine walkL_exit ?_ | refine blockA_here ?_ | refine blockA_other rfl ?_ | refine blockA_ret ?_ | refine blockA_normal ?_ | refine thenA_ret ?_ | refine thenA_exit ?_ | refine thenA_normal ?_)
    cases q3 : withinB p.gain 0 100
    · rw [q3] at k1
      have e := openE_bad burns hlk (by simp [plantBad, hhr, q3])
      rw [e, if_neg (by decide)]
      repeat (first | refine walkL_true rfl ?_ | refine walkL_false rfl ?_ | refine walkL_seq ?_ | refine walkL_skip ?_ | refine walkL_block ?_ | (refine walkL_region fun K hK => ?_; simp (maxSteps := 4000000) only [go_sem]; (repeat (first | (refine ⟨_, .lent (hf := k1) (hd := rfl) (hr := rfl), ?_⟩; simp (maxSteps := 4000000) only [go_sem]) | (refine ⟨_, .given (hf := k1) (hd := rfl) (ha := rfl), ?_⟩; simp (maxSteps := 4000000) only [go_sem]))); refine hK _ ?_; clear hK K) | refine walkL_nil ?_ | refine walkL_ret ?_ | refine walkL_exit ?_ | refine blockA_here ?_ | refine blockA_other rfl ?_ | refine blockA_ret ?_ | refine blockA_normal ?_ | refine thenA_ret ?_ | refine thenA_exit ?_ | refine thenA_normal ?_)
      simp (maxSteps := 4000000) only [go_sem]
    rw [q3] at k1
    repeat (first | refine walkL_true rfl ?_ | refine walkL_false rfl ?_ | refine walkL_seq ?_ | refine walkL_skip ?_ | refine walkL_block ?_ | (refine walkL_region fun K hK => ?_; simp (maxSteps := 4000000) only [go_sem]; (repeat (first | (refine ⟨_, .lent (hf := k1) (hd := rfl) (hr := rfl), ?_⟩; simp (maxSteps := 4000000) only [go_sem]) | (refine ⟨_, .given (hf := k1) (hd := rfl) (ha := rfl), ?_⟩; simp (maxSteps := 4000000) only [go_sem]))); refine hK _ ?_; clear hK K) | refine walkL_nil ?_ | refine walkL_ret ?_ | refine walkL_exit ?_ | refine blockA_here ?_ | refine blockA_other rfl ?_ | refine blockA_ret ?_ | refine blockA_normal ?_ | refine thenA_ret ?_ | refine thenA_exit ?_ | refine thenA_normal ?_)
    cases q4 : withinB p.start 0 p.stop
    · rw [q4] at k2
      have e := openE_bad burns hlk (by simp [plantBad, hhr, q4])
      rw [e, if_neg (by decide)]
      repeat (first | refine walkL_true rfl ?_ | refine walkL_false rfl ?_ | refine walkL_seq ?_ | refine walkL_skip ?_ | refine walkL_block ?_ | (refine walkL_region fun K hK => ?_; simp (maxSteps := 4000000) only [go_sem]; (repeat (first | (refine ⟨_, .lent (hf := k2) (hd := rfl) (hr := rfl), ?_⟩; simp (maxSteps := 4000000) only [go_sem]) | (refine ⟨_, .given (hf := k2) (hd := rfl) (ha := rfl), ?_⟩; simp (maxSteps := 4000000) only [go_sem]))); refine hK _ ?_; clear hK K) | refine walkL_nil ?_ | refine walkL_ret ?_ | refine walkL_exit ?_ | refine blockA_here ?_ | refine blockA_other rfl ?_ | refine blockA_ret ?_ | refine blockA_normal ?_ | refine thenA_ret ?_ | refine thenA_exit ?_ | refine thenA_normal ?_)
      simp (maxSteps := 4000000) only [go_sem]
    rw [q4] at k2
    repeat (first | refine walkL_true rfl ?_ | refine walkL_false rfl ?_ | refine walkL_seq ?_ | refine walkL_skip ?_ | refine walkL_block ?_ | (refine walkL_region fun K hK => ?_; simp (maxSteps := 4000000) only [go_sem]; (repeat (first | (refine ⟨_, .lent (hf := k2) (hd := rfl) (hr := rfl), ?_⟩; simp (maxSteps := 4000000) only [go_sem]) | (refine ⟨_, .given (hf := k2) (hd := rfl) (ha := rfl), ?_⟩; simp (maxSteps := 4000000) only [go_sem]))); refine hK _ ?_; clear hK K) | refine walkL_nil ?_ | refine walkL_ret ?_ | refine walkL_exit ?_ | refine blockA_here ?_ | refine blockA_other rfl ?_ | refine blockA_ret ?_ | refine blockA_normal ?_ | refine thenA_ret ?_ | refine thenA_exit ?_ | refine thenA_normal ?_)
    by_cases q5 : p.stop > 200
    · have e := openE_bad burns hlk (by simp [plantBad, hhr, q5])
      have hd : decide (p.stop > 200) = true := by simpa using q5
      rw [e, if_neg (by decide)]
      simp (maxSteps := 4000000) only [go_sem, hd]
      repeat (first | refine walkL_true rfl ?_ | refine walkL_false rfl ?_ | refine walkL_seq ?_ | refine walkL_skip ?_ | refine walkL_block ?_ | (refine walkL_region fun K hK => ?_; simp (maxSteps := 4000000) only [go_sem]; refine hK _ ?_; clear hK K) | refine walkL_nil ?_ | refine walkL_ret ?_ | refine walkL_exit ?_ | refine blockA_here ?_ | refine blockA_other rfl ?_ | refine blockA_ret ?_ | refine blockA_normal ?_ | refine thenA_ret ?_ | refine thenA_exit ?_ | refine thenA_normal ?_)
      simp (maxSteps := 4000000) only [go_sem]
    have hd : decide (p.stop > 200) = false := by simpa using q5
    simp (maxSteps := 4000000) only [go_sem, hd]
    repeat (first | refine walkL_true rfl ?_ | refine walkL_false rfl ?_ | refine walkL_seq ?_ | refine walkL_skip ?_ | refine walkL_block ?_ | (refine walkL_region fun K hK => ?_; simp (maxSteps := 4000000) only [go_sem]; refine hK _ ?_; clear hK K) | refine walkL_nil ?_ | refine walkL_ret ?_ | refine walkL_exit ?_ | refine blockA_here ?_ | refine blockA_other rfl ?_ | refine blockA_ret ?_ | refine blockA_normal ?_ | refine thenA_ret ?_ | refine thenA_exit ?_ | refine thenA_normal ?_)
    cases q6 : withinB p.capacity 0 100000
    · rw [q6] at k4
      have e := openE_bad burns hlk (by simp [plantBad, hhr, q6])
      rw [e, if_neg (by decide)]
      repeat (first | refine walkL_true rfl ?_ | refine walkL_false rfl ?_ | refine walkL_seq ?_ | refine walkL_skip ?_ | refine walkL_block ?_ | (refine walkL_region fun K hK => ?_; simp (maxSteps := 4000000) only [go_sem]; (repeat (first | (refine ⟨_, .lent (hf := k4) (hd := rfl) (hr := rfl), ?_⟩; simp (maxSteps := 4000000) only [go_sem]) | (refine ⟨_, .given (hf := k4) (hd := rfl) (ha := rfl), ?_⟩; simp (maxSteps := 4000000) only [go_sem]))); refine hK _ ?_; clear hK K) | refine walkL_nil ?_ | refine walkL_ret ?_ | refine walkL_exit ?_ | refine blockA_here ?_ | refine blockA_other rfl ?_ | refine blockA_ret ?_ | refine blockA_normal ?_ | refine thenA_ret ?_ | refine thenA_exit ?_ | refine thenA_normal ?_)
      simp (maxSteps := 4000000) only [go_sem]
    rw [q6] at k4
    repeat (first | refine walkL_true rfl ?_ | refine walkL_false rfl ?_ | refine walkL_seq ?_ | refine walkL_skip ?_ | refine walkL_block ?_ | (refine walkL_region fun K hK => ?_; simp (maxSteps := 4000000) only [go_sem]; (repeat (first | (refine ⟨_, .lent (hf := k4) (hd := rfl) (hr := rfl), ?_⟩; simp (maxSteps := 4000000) only [go_sem]) | (refine ⟨_, .given (hf := k4) (hd := rfl) (ha := rfl), ?_⟩; simp (maxSteps := 4000000) only [go_sem]))); refine hK _ ?_; clear hK K) | refine walkL_nil ?_ | refine walkL_ret ?_ | refine walkL_exit ?_ | refine blockA_here ?_ | refine blockA_other rfl ?_ | refine blockA_ret ?_ | refine blockA_normal ?_ | refine thenA_ret ?_ | refine thenA_exit ?_ | refine thenA_normal ?_)
    cases q7 : withinB p.charge 0 p.capacity
    · rw [q7] at k5
      have e := openE_bad burns hlk (by simp [plantBad, hhr, q7])
      rw [e, if_neg (by decide)]
      repeat (first | refine walkL_true rfl ?_ | refine walkL_false rfl ?_ | refine walkL_seq ?_ | refine walkL_skip ?_ | refine walkL_block ?_ | (refine walkL_region fun K hK => ?_; simp (maxSteps := 4000000) only [go_sem]; (repeat (first | (refine ⟨_, .lent (hf := k5) (hd := rfl) (hr := rfl), ?_⟩; simp (maxSteps := 4000000) only [go_sem]) | (refine ⟨_, .given (hf := k5) (hd := rfl) (ha := rfl), ?_⟩; simp (maxSteps := 4000000) only [go_sem]))); refine hK _ ?_; clear hK K) | refine walkL_nil ?_ | refine walkL_ret ?_ | refine walkL_exit ?_ | refine blockA_here ?_ | refine blockA_other rfl ?_ | refine blockA_ret ?_ | refine blockA_normal ?_ | refine thenA_ret ?_ | refine thenA_exit ?_ | refine thenA_normal ?_)
      simp (maxSteps := 4000000) only [go_sem]
    rw [q7] at k5
    repeat (first | refine walkL_true rfl ?_ | refine walkL_false rfl ?_ | refine walkL_seq ?_ | refine walkL_skip ?_ | refine walkL_block ?_ | (refine walkL_region fun K hK => ?_; simp (maxSteps := 4000000) only [go_sem]; (repeat (first | (refine ⟨_, .lent (hf := k5) (hd := rfl) (hr := rfl), ?_⟩; simp (maxSteps := 4000000) only [go_sem]) | (refine ⟨_, .given (hf := k5) (hd := rfl) (ha := rfl), ?_⟩; simp (maxSteps := 4000000) only [go_sem]))); refine hK _ ?_; clear hK K) | refine walkL_nil ?_ | refine walkL_ret ?_ | refine walkL_exit ?_ | refine blockA_here ?_ | refine blockA_other rfl ?_ | refine blockA_ret ?_ | refine blockA_normal ?_ | refine thenA_ret ?_ | refine thenA_exit ?_ | refine thenA_normal ?_)
    cases q8 : withinB p.reserve 0 p.capacity
    · rw [q8] at k6
      have e := openE_bad burns hlk (by simp [plantBad, hhr, q8])
      rw [e, if_neg (by decide)]
      repeat (first | refine walkL_true rfl ?_ | refine walkL_false rfl ?_ | refine walkL_seq ?_ | refine walkL_skip ?_ | refine walkL_block ?_ | (refine walkL_region fun K hK => ?_; simp (maxSteps := 4000000) only [go_sem]; (repeat (first | (refine ⟨_, .lent (hf := k6) (hd := rfl) (hr := rfl), ?_⟩; simp (maxSteps := 4000000) only [go_sem]) | (refine ⟨_, .given (hf := k6) (hd := rfl) (ha := rfl), ?_⟩; simp (maxSteps := 4000000) only [go_sem]))); refine hK _ ?_; clear hK K) | refine walkL_nil ?_ | refine walkL_ret ?_ | refine walkL_exit ?_ | refine blockA_here ?_ | refine blockA_other rfl ?_ | refine blockA_ret ?_ | refine blockA_normal ?_ | refine thenA_ret ?_ | refine thenA_exit ?_ | refine thenA_normal ?_)
      simp (maxSteps := 4000000) only [go_sem]
    rw [q8] at k6
    repeat (first | refine walkL_true rfl ?_ | refine walkL_false rfl ?_ | refine walkL_seq ?_ | refine walkL_skip ?_ | refine walkL_block ?_ | (refine walkL_region fun K hK => ?_; simp (maxSteps := 4000000) only [go_sem]; (repeat (first | (refine ⟨_, .lent (hf := k6) (hd := rfl) (hr := rfl), ?_⟩; simp (maxSteps := 4000000) only [go_sem]) | (refine ⟨_, .given (hf := k6) (hd := rfl) (ha := rfl), ?_⟩; simp (maxSteps := 4000000) only [go_sem]))); refine hK _ ?_; clear hK K) | refine walkL_nil ?_ | refine walkL_ret ?_ | refine walkL_exit ?_ | refine blockA_here ?_ | refine blockA_other rfl ?_ | refine blockA_ret ?_ | refine blockA_normal ?_ | refine thenA_ret ?_ | refine thenA_exit ?_ | refine thenA_normal ?_)
    cases q9 : withinB p.gas 0 10000
    · rw [q9] at k7
      have e := openE_bad burns hlk (by simp [plantBad, hhr, q9])
      rw [e, if_neg (by decide)]
      repeat (first | refine walkL_true rfl ?_ | refine walkL_false rfl ?_ | refine walkL_seq ?_ | refine walkL_skip ?_ | refine walkL_block ?_ | (refine walkL_region fun K hK => ?_; simp (maxSteps := 4000000) only [go_sem]; (repeat (first | (refine ⟨_, .lent (hf := k7) (hd := rfl) (hr := rfl), ?_⟩; simp (maxSteps := 4000000) only [go_sem]) | (refine ⟨_, .given (hf := k7) (hd := rfl) (ha := rfl), ?_⟩; simp (maxSteps := 4000000) only [go_sem]))); refine hK _ ?_; clear hK K) | refine walkL_nil ?_ | refine walkL_ret ?_ | refine walkL_exit ?_ | refine blockA_here ?_ | refine blockA_other rfl ?_ | refine blockA_ret ?_ | refine blockA_normal ?_ | refine thenA_ret ?_ | refine thenA_exit ?_ | refine thenA_normal ?_)
      simp (maxSteps := 4000000) only [go_sem]
    rw [q9] at k7
    repeat (first | refine walkL_true rfl ?_ | refine walkL_false rfl ?_ | refine walkL_seq ?_ | refine walkL_skip ?_ | refine walkL_block ?_ | (refine walkL_region fun K hK => ?_; simp (maxSteps := 4000000) only [go_sem]; (repeat (first | (refine ⟨_, .lent (hf := k7) (hd := rfl) (hr := rfl), ?_⟩; simp (maxSteps := 4000000) only [go_sem]) | (refine ⟨_, .given (hf := k7) (hd := rfl) (ha := rfl), ?_⟩; simp (maxSteps := 4000000) only [go_sem]))); refine hK _ ?_; clear hK K) | refine walkL_nil ?_ | refine walkL_ret ?_ | refine walkL_exit ?_ | refine blockA_here ?_ | refine blockA_other rfl ?_ | refine blockA_ret ?_ | refine blockA_normal ?_ | refine thenA_ret ?_ | refine thenA_exit ?_ | refine thenA_normal ?_)
    cases q10 : withinB p.rate 0 10
    · rw [q10] at k8
      have e := openE_bad burns hlk (by simp [plantBad, hhr, q10])
      rw [e, if_neg (by decide)]
      repeat (first | refine walkL_true rfl ?_ | refine walkL_false rfl ?_ | refine walkL_seq ?_ | refine walkL_skip ?_ | refine walkL_block ?_ | (refine walkL_region fun K hK => ?_; simp (maxSteps := 4000000) only [go_sem]; (repeat (first | (refine ⟨_, .lent (hf := k8) (hd := rfl) (hr := rfl), ?_⟩; simp (maxSteps := 4000000) only [go_sem]) | (refine ⟨_, .given (hf := k8) (hd := rfl) (ha := rfl), ?_⟩; simp (maxSteps := 4000000) only [go_sem]))); refine hK _ ?_; clear hK K) | refine walkL_nil ?_ | refine walkL_ret ?_ | refine walkL_exit ?_ | refine blockA_here ?_ | refine blockA_other rfl ?_ | refine blockA_ret ?_ | refine blockA_normal ?_ | refine thenA_ret ?_ | refine thenA_exit ?_ | refine thenA_normal ?_)
      simp (maxSteps := 4000000) only [go_sem]
    rw [q10] at k8
    repeat (first | refine walkL_true rfl ?_ | refine walkL_false rfl ?_ | refine walkL_seq ?_ | refine walkL_skip ?_ | refine walkL_block ?_ | (refine walkL_region fun K hK => ?_; simp (maxSteps := 4000000) only [go_sem]; (repeat (first | (refine ⟨_, .lent (hf := k8) (hd := rfl) (hr := rfl), ?_⟩; simp (maxSteps := 4000000) only [go_sem]) | (refine ⟨_, .given (hf := k8) (hd := rfl) (ha := rfl), ?_⟩; simp (maxSteps := 4000000) only [go_sem]))); refine hK _ ?_; clear hK K) | refine walkL_nil ?_ | refine walkL_ret ?_ | refine walkL_exit ?_ | refine blockA_here ?_ | refine blockA_other rfl ?_ | refine blockA_ret ?_ | refine blockA_normal ?_ | refine thenA_ret ?_ | refine thenA_exit ?_ | refine thenA_normal ?_)
    cases q11 : withinB p.units 0 200
    · rw [q11] at k9
      have e := openE_bad burns hlk (by simp [plantBad, hhr, q11])
      rw [e, if_neg (by decide)]
      repeat (first | refine walkL_true rfl ?_ | refine walkL_false rfl ?_ | refine walkL_seq ?_ | refine walkL_skip ?_ | refine walkL_block ?_ | (refine walkL_region fun K hK => ?_; simp (maxSteps := 4000000) only [go_sem]; (repeat (first | (refine ⟨_, .lent (hf := k9) (hd := rfl) (hr := rfl), ?_⟩; simp (maxSteps := 4000000) only [go_sem]) | (refine ⟨_, .given (hf := k9) (hd := rfl) (ha := rfl), ?_⟩; simp (maxSteps := 4000000) only [go_sem]))); refine hK _ ?_; clear hK K) | refine walkL_nil ?_ | refine walkL_ret ?_ | refine walkL_exit ?_ | refine blockA_here ?_ | refine blockA_other rfl ?_ | refine blockA_ret ?_ | refine blockA_normal ?_ | refine thenA_ret ?_ | refine thenA_exit ?_ | refine thenA_normal ?_)
      simp (maxSteps := 4000000) only [go_sem]
    rw [q11] at k9
    repeat (first | refine walkL_true rfl ?_ | refine walkL_false rfl ?_ | refine walkL_seq ?_ | refine walkL_skip ?_ | refine walkL_block ?_ | (refine walkL_region fun K hK => ?_; simp (maxSteps := 4000000) only [go_sem]; (repeat (first | (refine ⟨_, .lent (hf := k9) (hd := rfl) (hr := rfl), ?_⟩; simp (maxSteps := 4000000) only [go_sem]) | (refine ⟨_, .given (hf := k9) (hd := rfl) (ha := rfl), ?_⟩; simp (maxSteps := 4000000) only [go_sem]))); refine hK _ ?_; clear hK K) | refine walkL_nil ?_ | refine walkL_ret ?_ | refine walkL_exit ?_ | refine blockA_here ?_ | refine blockA_other rfl ?_ | refine blockA_ret ?_ | refine blockA_normal ?_ | refine thenA_ret ?_ | refine thenA_exit ?_ | refine thenA_normal ?_)
    have hok : plantBad p (hoursOf p) = false := by simp [plantBad, hhr, q1, q2, q3, q4, q5, q6, q7, q8, q9, q10, q11]
    have hrt := within_iff.1 q10
    obtain ⟨poss, hposs⟩ : ∃ poss, poss = possL p.scen p.seen := ⟨_, rfl⟩
    rw [← hposs]
    have hpl : poss.length ≤ p.scen.length := by rw [hposs]; exact possFrom_len p.seen p.scen 0
    repeat (first | refine walkL_seq ?_ | refine walkL_skip ?_ | refine walkL_block ?_ | (refine walkL_region fun K hK => ?_; simp (maxSteps := 4000000) only [go_sem, nums_len]; refine hK _ ?_; clear hK K) | refine walkL_nil ?_ | refine walkL_ret ?_ | refine walkL_exit ?_ | refine blockA_here ?_ | refine blockA_other rfl ?_ | refine blockA_ret ?_ | refine blockA_normal ?_ | refine thenA_ret ?_ | refine thenA_exit ?_ | refine thenA_normal ?_)
    refine walkL_loopS (fun (i : Nat) => [(96, .d (.i i))]) (fun i => [(36, some (.box [.d (.sl (scenRows p.scen)), .d (.sl (sightRows p.seen)), .d (.sl (intRows p.sun)), .d (.i p.gain), .d (.i p.start), .d (.i p.stop), .d (.i p.charge), .d (.i p.capacity), .d (.i p.reserve), .d (.i p.gas), .d (.i p.rate), .d (.i p.units), .d (.sl (intRows p.needs)), .own 140, .d (.i H0.length)])), (140, some (.arr 65 1 (scenRows (scensOf (poss.take i)))))]) (fun i => i ≤ poss.length) (fun i => poss.length - i) 0 ?_ (Nat.zero_le _) ?_
    · simp (maxSteps := 4000000) only [go_sem]
      refine weak_of [140] ?_ ?_ rfl rfl <;> simp [lessT, lessM, lessB, AV.less]
      all_goals first | done | rfl | exact ⟨rfl, rfl⟩
    · intro i hi
      simp (maxSteps := 4000000) only [go_sem]
      repeat (first | refine walkL_seq ?_ | refine walkL_skip ?_ | refine walkL_block ?_ | (refine walkL_region fun K hK => ?_; simp (maxSteps := 4000000) only [go_sem]; refine hK _ ?_; clear hK K) | refine walkL_nil ?_ | refine walkL_ret ?_ | refine walkL_exit ?_ | refine blockA_here ?_ | refine blockA_other rfl ?_ | refine blockA_ret ?_ | refine blockA_normal ?_ | refine thenA_ret ?_ | refine thenA_exit ?_ | refine thenA_normal ?_)
      refine walkL_cond rfl (fun hb => ?_) (fun hb => ?_)
      · rw [nums_len] at hb
        have hlt : i < poss.length := by simpa using hb
        have hw : IntKind.i64.wrap ((i : Int) + 1) = ((i + 1 : Nat) : Int) := by rw [wr_small (by omega)]; simp
        obtain ⟨kl, hkl⟩ : ∃ kl, poss[i]? = some kl := ⟨_, List.getElem?_eq_getElem hlt⟩
        obtain ⟨l, _, hl, hl', _⟩ := poss_get p.scen 0 i kl.1 kl.2 (by rw [← possL, ← hposs]; exact hkl)
        rw [Nat.sub_zero] at hl
        have hlm := List.mem_of_getElem? hl
        have hll : l.length = H0.length := by rw [hH0]; exact hg.len l hlm
        have g1 : (intRows (numsOf poss))[i]? = some [.i (kl.1 : Int)] := intRows_at (by simp [numsOf, hkl])
        have g2 := scenRows_at hl
        have htk : poss.take (i + 1) = poss.take i ++ [(kl.1, seenHours p.seen l)] := by rw [List.take_add_one, hkl, ← hl']; rfl
        have h81 := f81 l (by intro e; rw [e] at hll; simp at hll; omega) (by omega)
        have hrange : ∀ s ∈ p.seen, 0 ≤ s.hour ∧ s.hour.toNat < l.length := fun s hm => by have := s1 s hm; omega
        have hn2 : (scensOf (poss.take i)).length + 1 ≤ 549755813888 := by simp [scensOf]; omega
        repeat (first | refine walkL_seq ?_ | refine walkL_skip ?_ | refine walkL_block ?_ | (refine walkL_region fun K hK => ?_; simp (maxSteps := 4000000) only [go_sem, g1, g2]; refine hK _ ?_; clear hK K) | refine walkL_nil ?_ | refine walkL_ret ?_ | refine walkL_exit ?_ | refine blockA_here ?_ | refine blockA_other rfl ?_ | refine blockA_ret ?_ | refine blockA_normal ?_ | refine thenA_ret ?_ | refine thenA_exit ?_ | refine thenA_normal ?_)
        refine walkL_region fun K hK => ?_
        simp (maxSteps := 4000000) only [go_sem, g1, g2]
        refine ⟨_, .lentS (hdst := rfl) (hf := h81) (hd := rfl) (hr := by first | exact rowsFlat_int _ | exact rowsFlat_hour _ | exact rowsFlat_sight _ | exact rowsFlat_sky _) (hfr := rfl), ?_⟩
        simp (maxSteps := 4000000) only [go_sem]
        refine hK _ ?_
        clear hK K
        repeat (first | refine walkL_seq ?_ | refine walkL_skip ?_ | refine walkL_block ?_ | (refine walkL_region fun K hK => ?_; simp (maxSteps := 4000000) only [go_sem]; refine hK _ ?_; clear hK K) | refine walkL_nil ?_ | refine walkL_ret ?_ | refine walkL_exit ?_ | refine blockA_here ?_ | refine blockA_other rfl ?_ | refine blockA_ret ?_ | refine blockA_normal ?_ | refine thenA_ret ?_ | refine thenA_exit ?_ | refine thenA_normal ?_)
        refine walkL_loopS (fun (k : Nat) => [(111, .d (.i k))]) (fun k => [(107, some (.arr 64 6 (hourRows (seenHours (p.seen.take k) l))))]) (fun k => k ≤ p.seen.length) (fun k => p.seen.length - k) 0 ?_ (Nat.zero_le _) ?_
        · simp (maxSteps := 4000000) only [go_sem]
          refine weak_of [] ?_ ?_ rfl rfl <;> simp [lessT, lessM, lessB, AV.less]
          first | done | rfl
        · intro k hk
          simp (maxSteps := 4000000) only [go_sem]
          repeat (first | refine walkL_seq ?_ | refine walkL_skip ?_ | refine walkL_block ?_ | (refine walkL_region fun K hK => ?_; simp (maxSteps := 4000000) only [go_sem]; refine hK _ ?_; clear hK K) | refine walkL_nil ?_ | refine walkL_ret ?_ | refine walkL_exit ?_ | refine blockA_here ?_ | refine blockA_other rfl ?_ | refine blockA_ret ?_ | refine blockA_normal ?_ | refine thenA_ret ?_ | refine thenA_exit ?_ | refine thenA_normal ?_)
          refine walkL_cond rfl (fun hb => ?_) (fun hb => ?_)
          · have hlt2 : k < p.seen.length := by simpa using hb
            have hw2 : IntKind.i64.wrap ((k : Int) + 1) = ((k + 1 : Nat) : Int) := by rw [wr_small (by omega)]; simp
            obtain ⟨s, hsk⟩ : ∃ s, p.seen[k]? = some s := ⟨_, List.getElem?_eq_getElem hlt2⟩
            have gs := sightRows_at hsk
            have hr := hrange s (List.mem_of_getElem? hsk)
            have hlk2 := seenHours_len (p.seen.take k) l
            have gr := hourRows_at (hourAt_get (l := seenHours (p.seen.take k) l) (i := s.hour) ⟨hr.1, by rw [hlk2]; exact hr.2⟩)
            have hnx : seenHours (p.seen.take (k + 1)) l = (seenHours (p.seen.take k) l).set s.hour.toNat (pointH s.sky) := foldl_take_succ _ _ _ _ _ hsk
            repeat (first | refine walkL_seq ?_ | refine walkL_skip ?_ | refine walkL_block ?_ | (refine walkL_region fun K hK => ?_; simp (maxSteps := 4000000) only [go_sem, gs, Sight.row]; refine hK _ ?_; clear hK K) | refine walkL_nil ?_ | refine walkL_ret ?_ | refine walkL_exit ?_ | refine blockA_here ?_ | refine blockA_other rfl ?_ | refine blockA_ret ?_ | refine blockA_normal ?_ | refine thenA_ret ?_ | refine thenA_exit ?_ | refine thenA_normal ?_)
            refine walkL_drawn (by kernel_rfl) (by kernel_rfl) fun K hK => ?_
            simp (maxSteps := 4000000) only [go_sem, gs, Sight.row, hlk2, hr.1, hr.2, gr, Hour.row]
            refine ⟨_, .fn (hf := f82 s.sky.wind) (hd := rfl) (hr := .inl rfl), ?_⟩
            simp (maxSteps := 4000000) only [go_sem]
            refine ⟨_, .fn (hf := f82 s.sky.rain) (hd := rfl) (hr := .inl rfl), ?_⟩
            simp (maxSteps := 4000000) only [go_sem]
            refine ⟨_, .fn (hf := f82 s.sky.temp) (hd := rfl) (hr := .inl rfl), ?_⟩
            simp (maxSteps := 4000000) only [go_sem, gr, hlk2, hr.1, hr.2, Hour.row, pointH]
            refine ⟨by kernel_rfl, hK _ ?_⟩
            clear hK K
            repeat (first | refine walkL_seq ?_ | refine walkL_skip ?_ | refine walkL_block ?_ | (refine walkL_region fun K hK => ?_; simp (maxSteps := 4000000) only [go_sem, hw2]; refine hK _ ?_; clear hK K) | refine walkL_nil ?_ | refine walkL_ret ?_ | refine walkL_exit ?_ | refine blockA_here ?_ | refine blockA_other rfl ?_ | refine blockA_ret ?_ | refine blockA_normal ?_ | refine thenA_ret ?_ | refine thenA_exit ?_ | refine thenA_normal ?_)
            refine ⟨rfl, k + 1, ?_, hlt2, by omega⟩
            rw [hnx, ← hourRows_set]
            refine weak_of [] ?_ ?_ rfl rfl <;> simp [lessT, lessM, lessB, AV.less]
            first | done | rfl
          · have he : k = p.seen.length := by (have : ¬ k < p.seen.length := by simpa using hb); omega
            subst he
            rw [List.take_length]
            repeat (first | refine walkL_seq ?_ | refine walkL_skip ?_ | refine walkL_block ?_ | (refine walkL_region fun K hK => ?_; simp (maxSteps := 4000000) only [go_sem]; refine hK _ ?_; clear hK K) | refine walkL_nil ?_ | refine walkL_ret ?_ | refine walkL_exit ?_ | refine blockA_here ?_ | refine blockA_other rfl ?_ | refine blockA_ret ?_ | refine blockA_normal ?_ | refine thenA_ret ?_ | refine thenA_exit ?_ | refine thenA_normal ?_)
            refine walkL_release [107] ?_
            simp (maxSteps := 4000000) only [go_sem]
            refine walkL_drawnA (by kernel_rfl) (by kernel_rfl) fun K hK => ?_
            simp (maxSteps := 4000000) only [go_sem, hn2]
            refine ⟨by kernel_rfl, hK _ ?_⟩
            clear hK K
            repeat (first | refine walkL_seq ?_ | refine walkL_skip ?_ | refine walkL_block ?_ | (refine walkL_region fun K hK => ?_; simp (maxSteps := 4000000) only [go_sem, hw]; refine hK _ ?_; clear hK K) | refine walkL_nil ?_ | refine walkL_ret ?_ | refine walkL_exit ?_ | refine blockA_here ?_ | refine blockA_other rfl ?_ | refine blockA_ret ?_ | refine blockA_normal ?_ | refine thenA_ret ?_ | refine thenA_exit ?_ | refine thenA_normal ?_)
            refine ⟨rfl, i + 1, ?_, hlt, by omega⟩
            rw [htk, scens_push]
            refine weak_of [] ?_ ?_ rfl rfl <;> simp [lessT, lessM, lessB, AV.less]
            all_goals first | done | rfl | exact ⟨rfl, rfl⟩
      · rw [nums_len] at hb
        have he : i = poss.length := by (have : ¬ i < poss.length := by simpa using hb); omega
        subst he
        rw [List.take_length]
        have h84 := fun l hl => f84 ⟨p, scensOf poss, (H0.length : Int)⟩ l (by dsimp only; omega) hl
        have h83 := f83 burns 84 [.ptr [.ptr (⟨p, scensOf poss, (H0.length : Int)⟩ : Grid).cells 0] 0] (fun l => !burnB ⟨p, scensOf poss, (H0.length : Int)⟩ l) (fun l hm => h84 l (hbs l hm)) (by omega)
        rw [Grid.cells] at h83
        have hgr : gridOf p = ⟨p, scensOf poss, (H0.length : Int)⟩ := by rw [gridOf, hhr, hposs]
        cases hbb : burns.any (fun l => !burnB ⟨p, scensOf poss, (H0.length : Int)⟩ l)
        · rw [hbb] at h83
          have e : openE p burns = 0 := by simp only [openE, hlk, if_true, hok, Bool.false_eq_true, if_false, hgr, hbb]
          rw [e, if_pos rfl, hgr, Grid.cells]
          repeat (first | refine walkL_true rfl ?_ | refine walkL_false rfl ?_ | refine walkL_seq ?_ | refine walkL_skip ?_ | refine walkL_block ?_ | (refine walkL_region fun K hK => ?_; simp (maxSteps := 4000000) only [go_sem]; (repeat (first | (refine ⟨_, .lent (hf := h83) (hd := rfl) (hr := rfl), ?_⟩; simp (maxSteps := 4000000) only [go_sem]) | (refine ⟨_, .given (hf := h83) (hd := rfl) (ha := rfl), ?_⟩; simp (maxSteps := 4000000) only [go_sem]))); refine hK _ ?_; clear hK K) | refine walkL_nil ?_ | refine walkL_ret ?_ | refine walkL_exit ?_ | refine blockA_here ?_ | refine blockA_other rfl ?_ | refine blockA_ret ?_ | refine blockA_normal ?_ | refine thenA_ret ?_ | refine thenA_exit ?_ | refine thenA_normal ?_)
          simp (maxSteps := 4000000) only [go_sem]
        · rw [hbb] at h83
          have e : openE p burns = 101 := by simp only [openE, hlk, if_true, hok, Bool.false_eq_true, if_false, hgr, hbb]
          rw [e, if_neg (by decide)]
          repeat (first | refine walkL_true rfl ?_ | refine walkL_false rfl ?_ | refine walkL_seq ?_ | refine walkL_skip ?_ | refine walkL_block ?_ | (refine walkL_region fun K hK => ?_; simp (maxSteps := 4000000) only [go_sem]; (repeat (first | (refine ⟨_, .lent (hf := h83) (hd := rfl) (hr := rfl), ?_⟩; simp (maxSteps := 4000000) only [go_sem]) | (refine ⟨_, .given (hf := h83) (hd := rfl) (ha := rfl), ?_⟩; simp (maxSteps := 4000000) only [go_sem]))); refine hK _ ?_; clear hK K) | refine walkL_nil ?_ | refine walkL_ret ?_ | refine walkL_exit ?_ | refine blockA_here ?_ | refine blockA_other rfl ?_ | refine blockA_ret ?_ | refine blockA_normal ?_ | refine thenA_ret ?_ | refine thenA_exit ?_ | refine thenA_normal ?_)
          simp (maxSteps := 4000000) only [go_sem]
  · rw [if_neg hlk] at h76
    have e : openE p burns = lookF p.scen p.seen 0 true := by rw [openE, if_neg hlk]
    rw [e, if_neg hlk]
    have hz : (lookF p.scen p.seen 0 true != 0) = true := by simpa using hlk
    repeat (first | refine walkL_true rfl ?_ | refine walkL_false rfl ?_ | refine walkL_seq ?_ | refine walkL_skip ?_ | refine walkL_block ?_ | (refine walkL_region fun K hK => ?_; simp (maxSteps := 4000000) only [go_sem, hz]; (repeat (first | (refine ⟨_, .lent (hf := h76) (hd := rfl) (hr := rfl), ?_⟩; simp (maxSteps := 4000000) only [go_sem, hz]) | (refine ⟨_, .given (hf := h76) (hd := rfl) (ha := rfl), ?_⟩; simp (maxSteps := 4000000) only [go_sem, hz]))); refine hK _ ?_; clear hK K) | refine walkL_nil ?_ | refine walkL_ret ?_ | refine walkL_exit ?_ | refine blockA_here ?_ | refine blockA_other rfl ?_ | refine blockA_ret ?_ | refine blockA_normal ?_ | refine thenA_ret ?_ | refine thenA_exit ?_ | refine thenA_normal ?_)
    simp (maxSteps := 4000000) only [go_sem]

theorem f35 (p : Plant) (hs : PlantSmall p) : Fn Try.prog 35 [.agg p.cells] (.i (openE p [])) := by
  have h44 := f44 p [] hs (by simp) (by simp)
  have e0 : listRows [] = [] := rfl
  rw [e0, Plant.cells] at h44
  obtain ⟨e, he⟩ : ∃ e, e = openE p [] := ⟨_, rfl⟩
  rw [← he] at h44 ⊢
  refine fn_walk 11 Try.call35 Try.func35 rfl (by decide) fun J => ?_
  simp (maxSteps := 4000000) only [go_sem, St.start, Try.ntmps35, Try.results35, Plant.cells]
  by_cases hz : e = 0
  · rw [if_pos hz] at h44
    repeat (first | refine walkL_true rfl ?_ | refine walkL_false rfl ?_ | refine walkL_seq ?_ | refine walkL_skip ?_ | refine walkL_block ?_ | (refine walkL_region fun K hK => ?_; simp (maxSteps := 4000000) only [go_sem]; (repeat (first | (refine ⟨_, .lent (hf := h44) (hd := rfl) (hr := rfl), ?_⟩; simp (maxSteps := 4000000) only [go_sem]) | (refine ⟨_, .given (hf := h44) (hd := rfl) (ha := rfl), ?_⟩; simp (maxSteps := 4000000) only [go_sem]))); refine hK _ ?_; clear hK K) | refine walkL_nil ?_ | refine walkL_ret ?_ | refine walkL_exit ?_ | refine blockA_here ?_ | refine blockA_other rfl ?_ | refine blockA_ret ?_ | refine blockA_normal ?_ | refine thenA_ret ?_ | refine thenA_exit ?_ | refine thenA_normal ?_)
    simp (maxSteps := 4000000) only [go_sem]
  · rw [if_neg hz] at h44
    repeat (first | refine walkL_true rfl ?_ | refine walkL_false rfl ?_ | refine walkL_seq ?_ | refine walkL_skip ?_ | refine walkL_block ?_ | (refine walkL_region fun K hK => ?_; simp (maxSteps := 4000000) only [go_sem]; (repeat (first | (refine ⟨_, .lent (hf := h44) (hd := rfl) (hr := rfl), ?_⟩; simp (maxSteps := 4000000) only [go_sem]) | (refine ⟨_, .given (hf := h44) (hd := rfl) (ha := rfl), ?_⟩; simp (maxSteps := 4000000) only [go_sem]))); refine hK _ ?_; clear hK K) | refine walkL_nil ?_ | refine walkL_ret ?_ | refine walkL_exit ?_ | refine blockA_here ?_ | refine blockA_other rfl ?_ | refine blockA_ret ?_ | refine blockA_normal ?_ | refine thenA_ret ?_ | refine thenA_exit ?_ | refine thenA_normal ?_)
    simp (maxSteps := 4000000) only [go_sem]
end Go.Ab
namespace Go.Ab
open Go.RowKit

/-! ### What is handed to a program, as deep values -/

/-- What a cell holds. -/
inductive Sh where
  | int (k : IntKind)
  | bool
  | sl (row : List Sh)

mutual
/-- A value of this form, no slice in it longer than N. -/
def Sh.fits (N : Nat) : Sh → DV → Prop
  | .int k, d => ∃ n, d = .int k n ∧ (Lit.int k n).wf = true
  | .bool, d => ∃ b, d = .bool b
  | .sl r, d => ∃ rows, d = .sl rows ∧ rows.length ≤ N ∧ ∀ row ∈ rows, Sh.fitsL N r row
def Sh.fitsL (N : Nat) : List Sh → List DV → Prop
  | [], ds => ds = []
  | s :: ss, ds => ∃ d r, ds = d :: r ∧ Sh.fits N s d ∧ Sh.fitsL N ss r
end

theorem Sh.fitsL_len {N : Nat} : ∀ {ss : List Sh} {ds : List DV}, Sh.fitsL N ss ds → ds.length = ss.length
  | [], _, h => by simp only [Sh.fitsL] at h; subst h; rfl
  | s :: ss, ds, h => by
    simp only [Sh.fitsL] at h
    obtain ⟨d, r, rfl, _, h⟩ := h
    simp [Sh.fitsL_len h]

theorem Sh.fitsL_append {N : Nat} : ∀ {ss ts : List Sh} {ds es : List DV}, Sh.fitsL N ss ds → Sh.fitsL N ts es → Sh.fitsL N (ss ++ ts) (ds ++ es)
  | [], _, _, _, h, k => by simp only [Sh.fitsL] at h; subst h; simpa using k
  | s :: ss, ts, ds, es, h, k => by
    simp only [Sh.fitsL] at h
    obtain ⟨d, r, rfl, hd, h⟩ := h
    simp only [List.cons_append, Sh.fitsL]
    exact ⟨d, r ++ es, rfl, hd, Sh.fitsL_append h k⟩

/-- The cells of a struct's fields, laid without gaps. -/
def shapesF (P : Program) (g : TypeId → Option (List Sh)) : List Field → Nat → Option (List Sh)
  | [], _ => some []
  | f :: fs, o => if f.offset = o then (g f.type).bind fun r => if P.cellsOf f.type = r.length then (shapesF P g fs (o + r.length)).map fun s => r ++ s else none else none

/-- The cells of a type that is made of integers, bools, slices and structs without gaps. -/
def shapes (P : Program) : Nat → TypeId → Option (List Sh)
  | 0, _ => none
  | n + 1, t => match P.underlying t with
    | some .bool => some [.bool]
    | some (.int k) => some [.int k]
    | some (.slice e) => (shapes P n e).bind fun r => if P.cellsOf e = r.length ∧ 0 < r.length then some [.sl r] else none
    | some (.struct fs) => (shapesF P (shapes P n) fs.toList 0).bind fun r => if P.cellsOf t = r.length then some r else none
    | _ => none

/-- A size of what is read. -/
structure BulkOk {H : Type} (b : DataW H → Nat) : Prop where
  slice : ∀ elems spare, elems.length ≤ b (.slice elems spare)
  elem : ∀ elems spare, ∀ d ∈ elems, b d ≤ b (.slice elems spare)
  part : ∀ parts, ∀ d ∈ parts, b d ≤ b (.agg parts)

/-- Cells that stand for these deep values. -/
def Reads (w : World) (ds : List DV) (cs : List Value) : Prop :=
  ∀ (i : Nat) d v, ds[i]? = some d → cs[i]? = some v → v.oneCell' = true ∧ DRel w (fun _ => False) d v

section
variable {H : Type} {enc : TypeId × Value → H} {P : Program} {w : World} {sp : Nat → Bool} {held : Bool}

theorem readF {b : DataW H → Nat} {N : Nat} {g : TypeId → Option (List Sh)} {m : Nat} {cs : List Value}
    (hg : ∀ (t : TypeId) sh, g t = some sh → ∀ cs d ps, DataW.trod enc P w 0 sp held m t cs = some (d, ps) → b d ≤ N → cs.length = sh.length ∧ ∃ ds, Sh.fitsL N sh ds ∧ Reads w ds cs) :
    ∀ (fs : List Field) (xs : List (DataW H × List MemPlace)) (o : Nat) (sh : List Sh), shapesF P g fs o = some sh → xs.length = fs.length →
      (∀ (i : Nat) (f : Field), fs[i]? = some f → DataW.trod enc P w 0 sp held m f.type ((cs.drop f.offset).take (P.cellsOf f.type)) = xs[i]?) → (∀ x ∈ xs, b x.1 ≤ N) →
      ∃ ds, Sh.fitsL N sh ds ∧ Reads w ds (cs.drop o)
  | [], xs, o, sh, h, hl, _, _ => by
    simp only [shapesF, Option.some.injEq] at h
    subst h
    exact ⟨[], by simp [Sh.fitsL], fun i d v h => by simp at h⟩
  | f :: fs, xs, o, sh, h, hl, hx, hb => by
    simp only [shapesF] at h
    split at h
    case isFalse => cases h
    case isTrue ho =>
    obtain ⟨r, hr, h⟩ := Option.bind_eq_some_iff.1 h
    split at h
    case isFalse => cases h
    case isTrue hc =>
    obtain ⟨s, hs, rfl⟩ := Option.map_eq_some_iff.1 h
    cases xs with
    | nil => simp at hl
    | cons x xs =>
      have h0 := hx 0 f rfl
      rw [List.getElem?_cons_zero] at h0
      obtain ⟨hlen, ds, hf, hd⟩ := hg _ _ hr _ x.1 x.2 h0 (hb x (by simp))
      obtain ⟨es, he, hd'⟩ := readF hg fs xs (o + r.length) s hs (by simpa using hl) (fun i f' hf' => by simpa using hx (i + 1) f' (by simpa using hf')) (fun y hy => hb y (by simp [hy]))
      have hdl := Sh.fitsL_len hf
      refine ⟨ds ++ es, Sh.fitsL_append hf he, fun i d v h1 h2 => ?_⟩
      rw [List.getElem?_drop] at h2
      rcases Nat.lt_or_ge i ds.length with hi | hi
      · rw [List.getElem?_append_left hi] at h1
        refine hd i d v h1 ?_
        rw [List.getElem?_take, List.getElem?_drop, ho, if_pos (by omega), h2]
      · rw [List.getElem?_append_right hi] at h1
        refine hd' (i - ds.length) d v h1 ?_
        rw [List.getElem?_drop]
        rw [show o + r.length + (i - ds.length) = o + i from by omega, h2]

theorem cells_get {w : World} {a : Addr} {n : Nat} {cs : List Value} (h : w.cells? 0 a n = some cs) : cs.length = n ∧ ∀ j, j < n → w.cell? (a.add j) = cs[j]? := by
  simp only [World.cells?, Nat.zero_le, if_true] at h
  exact ⟨by simpa using mapM_some_length h, fun j hj => mapM_some_get h j j (by simp [hj])⟩

theorem cell_spot {w : World} {a : Addr} {v : Value} (h : w.cell? a = some v) : a.spot = none := by
  unfold World.cell? at h
  split at h
  · split at h
    · cases h
    · cases hs : a.spot <;> simp_all
  · cases h

theorem trod_read {b : DataW H → Nat} (hb : BulkOk b) (N : Nat) : ∀ (n : Nat) (t : TypeId) (sh : List Sh), shapes P n t = some sh → ∀ fuel cs d ps, DataW.trod enc P w 0 sp held fuel t cs = some (d, ps) → b d ≤ N →
    cs.length = sh.length ∧ ∃ ds, Sh.fitsL N sh ds ∧ Reads w ds cs
  | 0, _, _, h => by simp [shapes] at h
  | n + 1, t, sh, h => by
    intro fuel cs d ps hd hN
    unfold shapes at h
    split at h
    case h_1 ht =>
      cases h
      obtain ⟨v, rfl, _⟩ := DataW.trod_bool ht hd
      refine ⟨rfl, [.bool v], ?_, ?_⟩
      · simp [Sh.fitsL, Sh.fits]
      · intro i d' v' h1 h2
        cases i with
        | zero => simp only [List.getElem?_cons_zero, Option.some.injEq] at h1 h2; subst h1; subst h2; exact ⟨rfl, .bool _⟩
        | succ i => simp at h1
    case h_2 k ht =>
      cases h
      obtain ⟨v, rfl, _, hw⟩ := DataW.trod_int ht hd
      refine ⟨rfl, [.int k v], ?_, ?_⟩
      · simpa [Sh.fitsL, Sh.fits] using hw
      · intro i d' v' h1 h2
        cases i with
        | zero => simp only [List.getElem?_cons_zero, Option.some.injEq] at h1 h2; subst h1; subst h2; exact ⟨rfl, .int _ _⟩
        | succ i => simp at h1
    case h_3 e ht =>
      obtain ⟨r, hr, h⟩ := Option.bind_eq_some_iff.1 h
      split at h
      case isFalse => cases h
      case isTrue hc =>
      obtain ⟨hc, hp⟩ := hc
      cases h
      rcases DataW.trod_slice ht hd with ⟨rfl, _⟩ | ⟨a, len, cap, elems, rest, m, rfl, rfl, hx, _, hcap, _, hl, hel, _⟩
      · refine ⟨rfl, [.sl []], ?_, ?_⟩
        · simp [Sh.fitsL, Sh.fits]
        · intro i d' v' h1 h2
          cases i with
          | zero => simp only [List.getElem?_cons_zero, Option.some.injEq] at h1 h2; subst h1; subst h2; exact ⟨rfl, .slNil⟩
          | succ i => simp at h1
      · obtain rfl : d = .slice (elems.map (·.1)) (rest.map (·.1)) := congrArg Prod.fst hx
        have hrow : ∀ i : Nat, ∃ ds : List DV, i < len → Sh.fitsL N r ds ∧ ∀ j d, ds[j]? = some d → ∃ v, w.cell? (a.add (i * r.length) |>.add j) = some v ∧ v.oneCell' = true ∧ DRel w (fun _ => False) d v := by
          intro i
          by_cases hi : i < len
          · have h1 := hel i hi
            rw [List.getElem?_eq_getElem (by omega)] at h1
            obtain ⟨cs', hcs, htr⟩ := Option.bind_eq_some_iff.1 h1
            have hin : (elems[i]'(by omega)).1 ∈ elems.map (·.1) := List.mem_map.2 ⟨_, List.getElem_mem _, rfl⟩
            obtain ⟨hlen, ds, hf, hds⟩ := trod_read hb N n e r hr m cs' (elems[i]'(by omega)).1 (elems[i]'(by omega)).2 htr (Nat.le_trans (hb.elem _ _ _ hin) hN)
            refine ⟨ds, fun _ => ⟨hf, fun j d hj => ?_⟩⟩
            have hjl : j < ds.length := by
              rcases Nat.lt_or_ge j ds.length with h | h
              · exact h
              · rw [List.getElem?_eq_none h] at hj; cases hj
            rw [Sh.fitsL_len hf] at hjl
            have hcell := (cells_get hcs).2 j (by omega)
            rw [hc] at hcell
            have hv : cs'[j]? = some (cs'[j]'(by omega)) := List.getElem?_eq_getElem _
            rw [hv] at hcell
            exact ⟨_, hcell, hds j d _ hj hv⟩
          · exact ⟨[], fun h => absurd h hi⟩
        have hcho := Classical.axiomOfChoice hrow
        obtain ⟨F, hF⟩ := hcho
        have hrl : ((List.range len).map F).length = len := by simp
        refine ⟨rfl, [.sl ((List.range len).map F)], ?_, ?_⟩
        · simp only [Sh.fitsL, Sh.fits]
          refine ⟨_, _, rfl, ⟨_, rfl, ?_, ?_⟩, rfl⟩
          · rw [hrl]
            have := hb.slice (elems.map (·.1)) (rest.map (·.1))
            simp only [List.length_map] at this
            omega
          · intro row hrow
            obtain ⟨i, hi, rfl⟩ := List.mem_map.1 hrow
            exact (hF i (by simpa using hi)).1
        · intro i d' v' h1 h2
          cases i with
          | succ i => simp at h1
          | zero =>
            simp only [List.getElem?_cons_zero, Option.some.injEq] at h1 h2
            subst h1; subst h2
            refine ⟨rfl, ?_⟩
            cases hlen : len with
            | zero => exact .slEmpty _ _
            | succ l =>
              have hspot : a.spot = none := by
                have h0 := hF 0 (by omega)
                have hfl := Sh.fitsL_len h0.1
                obtain ⟨v, hv, _⟩ := h0.2 0 ((F 0)[0]'(by omega)) (List.getElem?_eq_getElem _)
                simp only [Nat.zero_mul, Addr.add, if_true] at hv
                exact cell_spot hv
              obtain ⟨blk, off, spot⟩ := a
              simp only at hspot
              subst hspot
              have hadd : ∀ i j, (Addr.add (Addr.add ⟨blk, off, none⟩ (i * r.length)) j) = ⟨blk, off + i * r.length + j, none⟩ := by
                intro i j
                unfold Addr.add
                by_cases h1 : i * r.length = 0 <;> by_cases h2 : j = 0 <;> simp [h1, h2]
              have hall : ∀ (i : Nat) (r' : List DV) (j : Nat) (d : DV), ((List.range len).map F)[i]? = some r' → r'[j]? = some d → ∃ v, w.cell? ⟨blk, off + i * r.length + j, none⟩ = some v ∧ v.oneCell' = true ∧ DRel w (fun _ => False) d v := by
                intro i r' j d h1 h2
                rw [List.getElem?_map] at h1
                obtain ⟨i', hi', rfl⟩ := Option.map_eq_some_iff.1 h1
                obtain ⟨hil, rfl⟩ := List.getElem?_eq_some_iff.1 hi'
                simp only [List.length_range] at hil
                simp only [List.getElem_range] at h2
                obtain ⟨v, hv, h3, h4⟩ := (hF i hil).2 j d h2
                rw [hadd] at hv
                exact ⟨v, hv, h3, h4⟩
              have hfin := DRel.sl (w := w) (own := fun _ => False) ((List.range len).map F) blk off r.length cap (fun i j => (w.cell? ⟨blk, off + i * r.length + j, none⟩).getD .nilFunc) (by rw [hrl]; exact hcap)
                (by
                  intro row hrow
                  obtain ⟨i, hi, rfl⟩ := List.mem_map.1 hrow
                  exact Sh.fitsL_len (hF i (by simpa using hi)).1)
                (by
                  intro i r' j d h1 h2
                  obtain ⟨v, hv, h3, _⟩ := hall i r' j d h1 h2
                  rw [hv]
                  exact ⟨fun h => h, rfl, h3⟩)
                (by
                  intro i r' j d h1 h2
                  obtain ⟨v, hv, _, h4⟩ := hall i r' j d h1 h2
                  simp only [hv, Option.getD_some]
                  exact h4)
              rw [hrl] at hfin
              rw [hlen] at hfin
              exact hfin
    case h_4 fs ht =>
      obtain ⟨r, hr, h⟩ := Option.bind_eq_some_iff.1 h
      split at h
      case isFalse => cases h
      case isTrue hc =>
      cases h
      obtain ⟨xs, m, rfl, hx, hl, hxl, hi⟩ := DataW.trod_struct ht hd
      obtain rfl : d = .agg (xs.map (·.1)) := congrArg Prod.fst hx
      obtain ⟨ds, hf, hds⟩ := readF (fun t sh h cs d ps hd hN => trod_read hb N n t sh h m cs d ps hd hN) fs.toList xs 0 sh hr (by simpa using hxl) (fun i f hf => hi i f (by simpa using hf))
        (fun x hx => Nat.le_trans (hb.part _ _ (List.mem_map.2 ⟨x, hx, rfl⟩)) hN)
      exact ⟨by omega, ds, hf, by simpa using hds⟩
    case h_5 => cases h
end
end Go.Ab
/- The link from a walked contract to a statement's contract, for arguments of any number and of the types that the statements take; where what is read is of bulk at most the bound. -/
namespace Go.Ab
open Go.RowKit Go.Proofs Go.ChangeShapes Go.WideShapes Go.Proofs.Ytlcbalngfpgjdaa
set_option linter.unusedVariables false
set_option maxRecDepth 100000

section
variable {H : Type} {enc : TypeId × Value → H} {P : Program}
/-- The world grew, and nothing that was there has turned: the post-condition of a statement that changes nothing. -/
theorem post_of_below {f : Func} {s : ChangeSpec} {apart fresh handsOn again : Bool} {W W' : World} {args : Array Value} {v : Value} {ds gs : List (DataW H)} {before pa pv : List MemPlace}
    (hW : DataW.Whole enc P f.params.toList s.vars apart W args.toList ds gs before)
    (hres : ∀ (b : Nat) (sp : Nat → Bool) (hd : Bool), DataW.TrodAll enc P W' b sp hd f.resultTypes.toList (v.resultList f.resultTypes.size) (s.fn H (ds ++ gs)).results [])
    (hargs : ∀ sp : Nat → Bool, (∀ p ∈ before, sp p.block = true) → DataW.TrodAll enc P W' 0 sp true f.params.toList args.toList (s.fn H (ds ++ gs)).args pa)
    (hvars : ∀ sp : Nat → Bool, (∀ p ∈ before, sp p.block = true) → DataW.TrodVars enc P W' sp s.vars (s.fn H (ds ++ gs)).vars pv)
    (hps : before = pa ++ pv) (hb : Below W.heap.size W W')
    (hok : ∀ (j : Nat) (t : TypeId) (r : Value), f.resultTypes[j]? = some t → (v.resultList f.resultTypes.size)[j]? = some r → Value.okWide P W' .any 0 t r) :
    s.post enc P f apart fresh handsOn again W args v W' := by
  have hlt := hW.lt
  have hold : ∀ p ∈ before, (fun b => decide (b < W.heap.size)) p.block = true := fun p hp => by simpa using hlt p hp
  refine ⟨ds, gs, before, [], pa, pv, hW, hres _ _ _, hargs _ hold, hvars _ hold, World.keptBut_mono (fun p hp => ⟨hp, ?_⟩) (hb.frame (· ∈ before)), fun _ => ?_⟩
  · rw [hps, List.mem_append] at hp
    exact Or.inr hp
  · obtain ⟨_, _, _, _, _, hz, hn⟩ := hW
    refine ⟨hok, _, _, ([] ++ pa) ++ pv, ⟨[] ++ pa, pv, trodAll_append (hargs _ (fun _ _ => rfl)) (hres _ _ _), hvars _ (fun _ _ => rfl), rfl, ?_, ?_⟩, ?_⟩
    · intro b off hp
      have hp' : MemPlace.cell b off ∈ before := by rw [hps]; simpa using hp
      rw [hb.frozen (p := ⟨b, off, none⟩) (hlt _ hp')]
      exact hz b off hp'
    · intro ha
      have := hn ha
      rw [hps] at this
      simpa using this
    · intro p hp _
      rw [hps]
      simpa using hp
end

/-- Rows of this form are rows of values. -/
theorem rows_of {α : Type} {row : α → List DV} {Q : α → Prop} : ∀ {rows : List (List DV)}, (∀ r ∈ rows, ∃ a, r = row a ∧ Q a) → ∃ l : List α, rows = l.map row ∧ ∀ a ∈ l, Q a
  | [], _ => ⟨[], rfl, fun _ h => by cases h⟩
  | r :: rs, h => by
    obtain ⟨a, rfl, ha⟩ := h r (by simp)
    obtain ⟨l, rfl, hl⟩ := rows_of (rows := rs) (fun r hr => h r (by simp [hr]))
    exact ⟨a :: l, rfl, fun b hb => by rcases List.mem_cons.1 hb with rfl | hb; exact ha; exact hl b hb⟩

def iS : Sh := .int .i64
def hourS : List Sh := [iS, iS, iS, iS, iS, iS]
def skyS : List Sh := [iS, iS, iS]
def sightS : List Sh := [iS, iS, iS, iS]
def plantS : List Sh := [.sl [.sl hourS], .sl sightS, .sl [iS], iS, iS, iS, iS, iS, iS, iS, iS, iS, .sl [iS]]

theorem int_of {N : Nat} {r : List DV} (h : Sh.fitsL N [iS] r) : ∃ s : Int, r = [.i s] ∧ True := by
  simp only [iS, Sh.fitsL, Sh.fits] at h
  obtain ⟨_, _, rfl, ⟨a, rfl, _⟩, rfl⟩ := h
  exact ⟨a, rfl, trivial⟩
theorem hour_of {N : Nat} {r : List DV} (h : Sh.fitsL N hourS r) : ∃ s : Hour, r = s.row ∧ True := by
  simp only [hourS, iS, Sh.fitsL, Sh.fits] at h
  obtain ⟨_, _, rfl, ⟨a, rfl, _⟩, _, _, rfl, ⟨b, rfl, _⟩, _, _, rfl, ⟨c, rfl, _⟩, _, _, rfl, ⟨d, rfl, _⟩, _, _, rfl, ⟨e, rfl, _⟩, _, _, rfl, ⟨f, rfl, _⟩, rfl⟩ := h
  exact ⟨⟨⟨a, b⟩, ⟨c, d⟩, ⟨e, f⟩⟩, rfl, trivial⟩
theorem sky_of {N : Nat} {r : List DV} (h : Sh.fitsL N skyS r) : ∃ s : Sky, r = s.row ∧ True := by
  simp only [skyS, iS, Sh.fitsL, Sh.fits] at h
  obtain ⟨_, _, rfl, ⟨a, rfl, _⟩, _, _, rfl, ⟨b, rfl, _⟩, _, _, rfl, ⟨c, rfl, _⟩, rfl⟩ := h
  exact ⟨⟨a, b, c⟩, rfl, trivial⟩
theorem sight_of {N : Nat} {r : List DV} (h : Sh.fitsL N sightS r) : ∃ s : Sight, r = s.row ∧ True := by
  simp only [sightS, iS, Sh.fitsL, Sh.fits] at h
  obtain ⟨_, _, rfl, ⟨d, rfl, _⟩, _, _, rfl, ⟨a, rfl, _⟩, _, _, rfl, ⟨b, rfl, _⟩, _, _, rfl, ⟨c, rfl, _⟩, rfl⟩ := h
  exact ⟨⟨d, ⟨a, b, c⟩⟩, rfl, trivial⟩

theorem ints_of {N : Nat} {d : DV} (h : Sh.fits N (.sl [iS]) d) : ∃ l : List Int, d = .sl (intRows l) ∧ l.length ≤ N := by
  simp only [Sh.fits] at h
  obtain ⟨rows, rfl, hl, hr⟩ := h
  obtain ⟨l, rfl, _⟩ := rows_of (fun r h => int_of (hr r h))
  exact ⟨l, rfl, by simpa using hl⟩
theorem skies_of {N : Nat} {d : DV} (h : Sh.fits N (.sl skyS) d) : ∃ l : List Sky, d = .sl (skyRows l) ∧ l.length ≤ N := by
  simp only [Sh.fits] at h
  obtain ⟨rows, rfl, hl, hr⟩ := h
  obtain ⟨l, rfl, _⟩ := rows_of (fun r h => sky_of (hr r h))
  exact ⟨l, rfl, by simpa using hl⟩
theorem sights_of {N : Nat} {d : DV} (h : Sh.fits N (.sl sightS) d) : ∃ l : List Sight, d = .sl (sightRows l) ∧ l.length ≤ N := by
  simp only [Sh.fits] at h
  obtain ⟨rows, rfl, hl, hr⟩ := h
  obtain ⟨l, rfl, _⟩ := rows_of (fun r h => sight_of (hr r h))
  exact ⟨l, rfl, by simpa using hl⟩
theorem hours_of {N : Nat} {r : List DV} (h : Sh.fitsL N [.sl hourS] r) : ∃ l : List Hour, r = [.sl (hourRows l)] ∧ l.length ≤ N := by
  simp only [Sh.fitsL] at h
  obtain ⟨d, _, rfl, h, rfl⟩ := h
  simp only [Sh.fits] at h
  obtain ⟨rows, rfl, hl, hr⟩ := h
  obtain ⟨l, rfl, _⟩ := rows_of (fun r h => hour_of (hr r h))
  exact ⟨l, rfl, by simpa using hl⟩
theorem scens_of {N : Nat} {d : DV} (h : Sh.fits N (.sl [.sl hourS]) d) : ∃ F : List (List Hour), d = .sl (scenRows F) ∧ F.length ≤ N ∧ ∀ l ∈ F, l.length ≤ N := by
  simp only [Sh.fits] at h
  obtain ⟨rows, rfl, hl, hr⟩ := h
  obtain ⟨F, rfl, hF⟩ := rows_of (row := fun l : List Hour => [DV.sl (hourRows l)]) (fun r h => hours_of (hr r h))
  exact ⟨F, rfl, by simpa using hl, hF⟩

theorem plant_of {N : Nat} (hN : N < 2 ^ 30) {r : List DV} (h : Sh.fitsL N plantS r) : ∃ p : Plant, r = p.cells ∧ PlantSmall p := by
  unfold plantS at h
  rw [Sh.fitsL] at h
  obtain ⟨x0, _, rfl, h0, h⟩ := h
  rw [Sh.fitsL] at h
  obtain ⟨x1, _, rfl, h1, h⟩ := h
  rw [Sh.fitsL] at h
  obtain ⟨x2, _, rfl, h2, h⟩ := h
  obtain ⟨F, rfl, f1, f2⟩ := scens_of h0
  obtain ⟨S, rfl, s1⟩ := sights_of h1
  obtain ⟨U, rfl, u1⟩ := ints_of h2
  rw [Sh.fitsL] at h
  obtain ⟨y1, _, rfl, k1, h⟩ := h
  rw [Sh.fitsL] at h
  obtain ⟨y2, _, rfl, k2, h⟩ := h
  rw [Sh.fitsL] at h
  obtain ⟨y3, _, rfl, k3, h⟩ := h
  rw [Sh.fitsL] at h
  obtain ⟨y4, _, rfl, k4, h⟩ := h
  rw [Sh.fitsL] at h
  obtain ⟨y5, _, rfl, k5, h⟩ := h
  rw [Sh.fitsL] at h
  obtain ⟨y6, _, rfl, k6, h⟩ := h
  rw [Sh.fitsL] at h
  obtain ⟨y7, _, rfl, k7, h⟩ := h
  rw [Sh.fitsL] at h
  obtain ⟨y8, _, rfl, k8, h⟩ := h
  rw [Sh.fitsL] at h
  obtain ⟨y9, _, rfl, k9, h⟩ := h
  rw [Sh.fitsL] at h
  obtain ⟨y10, _, rfl, k10, h⟩ := h
  rw [Sh.fitsL] at h
  subst h
  obtain ⟨D, rfl, d1⟩ := ints_of k10
  simp only [iS, Sh.fits] at k1 k2 k3 k4 k5 k6 k7 k8 k9
  obtain ⟨a1, rfl, _⟩ := k1
  obtain ⟨a2, rfl, _⟩ := k2
  obtain ⟨a3, rfl, _⟩ := k3
  obtain ⟨a4, rfl, _⟩ := k4
  obtain ⟨a5, rfl, _⟩ := k5
  obtain ⟨a6, rfl, _⟩ := k6
  obtain ⟨a7, rfl, _⟩ := k7
  obtain ⟨a8, rfl, _⟩ := k8
  obtain ⟨a9, rfl, _⟩ := k9
  refine ⟨⟨F, S, U, a1, a2, a3, a4, a5, a6, a7, a8, a9, D⟩, rfl, ⟨⟨?_, fun l hl => ?_⟩, ?_, ?_, ?_⟩⟩
  · show F.length < 2 ^ 30
    omega
  · have := f2 l hl
    omega
  · show S.length < 2 ^ 30
    omega
  · show U.length < 2 ^ 30
    omega
  · show D.length < 2 ^ 30
    omega

theorem plantSh : shapes Try.prog 20 30 = some plantS := by kernel_rfl
theorem intsSh : shapes Try.prog 20 26 = some [.sl [iS]] := by kernel_rfl
theorem skiesSh : shapes Try.prog 20 49 = some [.sl skyS] := by kernel_rfl
theorem intSh : shapes Try.prog 20 3 = some [iS] := by kernel_rfl

theorem bulk_mem {H : Type} : ∀ {l : List (DataW H)} {d : DataW H}, d ∈ l → Rows.uptoBulk d ≤ Rows.uptoBulkAll l
  | x :: r, d, h => by
    simp only [Rows.uptoBulkAll]
    rcases List.mem_cons.1 h with rfl | h
    · omega
    · have := bulk_mem h
      omega

theorem bulk_pos {H : Type} (d : DataW H) : 1 ≤ Rows.uptoBulk d := by
  cases d with
  | lit l => cases l <;> simp [Rows.uptoBulk]
  | _ => simp [Rows.uptoBulk]

theorem bulk_len {H : Type} : ∀ (l : List (DataW H)), l.length ≤ Rows.uptoBulkAll l
  | [] => by simp
  | x :: r => by
    have h1 := bulk_pos x
    have h2 := bulk_len r
    simp only [Rows.uptoBulkAll, List.length_cons]
    omega

theorem bulkOk {H : Type} : BulkOk (Rows.uptoBulk (H := H)) where
  slice := fun elems spare => by
    have := bulk_len elems
    simp only [Rows.uptoBulk]
    omega
  elem := fun elems spare d hd => by
    have := bulk_mem hd
    simp only [Rows.uptoBulk]
    omega
  part := fun parts d hd => by
    have := bulk_mem hd
    simp only [Rows.uptoBulk]
    omega

/-- What a statement's argument of a type reads as. -/
structure Rd (t : TypeId) (C : DV → Prop) : Prop where
  rec' : Try.prog.readableRec t = true
  lt : t < Try.prog.types.size
  read : ∀ (H : Type) (enc : TypeId × Value → H) (w : World) (base : Nat) (v : Value) (d : DataW H) (ps : List MemPlace), Value.okWide Try.prog w .any base t v → DataW.Trod enc Try.prog w 0 (fun _ => true) true t v d ps → Rows.uptoBulk d ≤ 1048576 → ∃ x, C x ∧ DRel w (fun _ => False) x v

theorem agg_read {H : Type} {enc : TypeId × Value → H} {w : World} {t : TypeId} {sh : List Sh} (hs : shapes Try.prog 20 t = some sh) (h2 : 2 ≤ sh.length) {v : Value} {d : DataW H} {ps : List MemPlace}
    (h : DataW.Trod enc Try.prog w 0 (fun _ => true) true t v d ps) (hd : Rows.uptoBulk d ≤ 1048576) :
    ∃ ds, Sh.fitsL 1048576 sh ds ∧ DRel w (fun _ => False) (.agg ds) v := by
  obtain ⟨fuel, h⟩ := h
  obtain ⟨hl, ds, hf, hr⟩ := trod_read bulkOk 1048576 20 t sh hs fuel _ _ _ h hd
  have hdl := Sh.fitsL_len hf
  refine ⟨ds, hf, ?_⟩
  cases v with
  | agg cs =>
    simp only [Value.cells] at hl hr
    exact .agg _ _ (by simpa [hdl] using hl.symm) fun i d v h1 h2 => (hr i d v h1 (by simpa using h2)).2
  | _ => simp [Value.cells] at hl; omega

theorem one_read {H : Type} {enc : TypeId × Value → H} {w : World} {t : TypeId} {s : Sh} (hs : shapes Try.prog 20 t = some [s]) {v : Value} {d : DataW H} {ps : List MemPlace}
    (hv : v.cells.toList = [v]) (h : DataW.Trod enc Try.prog w 0 (fun _ => true) true t v d ps) (hd : Rows.uptoBulk d ≤ 1048576) :
    ∃ x, Sh.fits 1048576 s x ∧ DRel w (fun _ => False) x v := by
  obtain ⟨fuel, h⟩ := h
  obtain ⟨hl, ds, hf, hr⟩ := trod_read bulkOk 1048576 20 t _ hs fuel _ _ _ h hd
  simp only [Sh.fitsL] at hf
  obtain ⟨x, _, rfl, hx, rfl⟩ := hf
  exact ⟨x, hx, (hr 0 x v rfl (by rw [hv]; rfl)).2⟩

theorem rdPlant : Rd 30 (fun x => ∃ p : Plant, x = .agg p.cells ∧ PlantSmall p) :=
  ⟨by kernel_rfl, of_decide_eq_true (by kernel_rfl), fun H enc w base v d ps _ h hd => by
    obtain ⟨ds, hf, hr⟩ := agg_read plantSh (by decide) h hd
    obtain ⟨p, rfl, hp⟩ := plant_of (by decide) hf
    exact ⟨_, ⟨p, rfl, hp⟩, hr⟩⟩
theorem rdInts : Rd 26 (fun x => ∃ l : List Int, x = .sl (intRows l) ∧ l.length < 2 ^ 30) :=
  ⟨by kernel_rfl, of_decide_eq_true (by kernel_rfl), fun H enc w base v d ps hok h hd => by
    obtain ⟨a, len, cap, rfl⟩ := okWide_slice Try.underlying26 hok
    obtain ⟨x, hx, hr⟩ := one_read intsSh rfl h hd
    obtain ⟨l, rfl, hl⟩ := ints_of hx
    exact ⟨_, ⟨l, rfl, by omega⟩, hr⟩⟩
theorem rdSkies : Rd 49 (fun x => ∃ l : List Sky, x = .sl (skyRows l) ∧ l.length < 2 ^ 30) :=
  ⟨by kernel_rfl, of_decide_eq_true (by kernel_rfl), fun H enc w base v d ps hok h hd => by
    obtain ⟨a, len, cap, rfl⟩ := okWide_slice Try.underlying49 hok
    obtain ⟨x, hx, hr⟩ := one_read skiesSh rfl h hd
    obtain ⟨l, rfl, hl⟩ := skies_of hx
    exact ⟨_, ⟨l, rfl, by omega⟩, hr⟩⟩
theorem rdInt : Rd 3 (fun x => ∃ n : Int, x = .i n) :=
  ⟨by kernel_rfl, of_decide_eq_true (by kernel_rfl), fun H enc w base v d ps hok h hd => by
    obtain ⟨n, rfl⟩ := okWide_int Try.underlying3 hok
    obtain ⟨x, hx, hr⟩ := one_read intSh rfl h hd
    simp only [iS, Sh.fits] at hx
    obtain ⟨m, rfl, _⟩ := hx
    exact ⟨_, ⟨m, rfl⟩, hr⟩⟩

/-- Deep values that are as asked, one by one. -/
def AllC : List (TypeId × (DV → Prop)) → List DV → Prop
  | [], [] => True
  | c :: cs, x :: xs => c.2 x ∧ AllC cs xs
  | _, _ => False

section
variable {H : Type} {enc : TypeId × Value → H} {W : World}
theorem read_all {base : Nat} : ∀ (L : List (TypeId × (DV → Prop))), (∀ c ∈ L, Rd c.1 c.2) → ∀ (vs : List Value) (ds : List (DataW H)) (ps : List MemPlace),
    (∀ (j : Nat) t v, (L.map (·.1))[j]? = some t → vs[j]? = some v → Value.okWide Try.prog W .any base t v) →
    DataW.TrodAll enc Try.prog W 0 (fun _ => true) true (L.map (·.1)) vs ds ps → Rows.uptoBulkAll ds ≤ 1048576 →
    vs.length = L.length ∧ ds.length = L.length ∧ ∃ xs, AllC L xs ∧ xs.length = L.length ∧ ∀ (i : Nat) x v, xs[i]? = some x → vs[i]? = some v → DRel W (fun _ => False) x v
  | [], _, vs, ds, ps, _, h, _ => by
    obtain ⟨rfl, rfl, rfl⟩ := trodAll_nil h
    exact ⟨rfl, rfl, [], trivial, rfl, fun i x v h => by simp at h⟩
  | c :: L, hc, vs, ds, ps, hval, h, hb => by
    obtain ⟨v, vs', d, ds', p, q, rfl, rfl, rfl, hd, hrest⟩ := trodAll_cons h
    simp only [Rows.uptoBulkAll] at hb
    obtain ⟨x, hx, hr⟩ := (hc c (by simp)).read H enc W base v d p (hval 0 _ v (by simp) (by simp)) hd (by omega)
    obtain ⟨h1, h2, xs, h3, h4, h5⟩ := read_all L (fun c h => hc c (by simp [h])) vs' ds' q (fun j t v h1 h2 => hval (j + 1) t v (by simpa using h1) (by simpa using h2)) hrest (by omega)
    refine ⟨by simp [h1], by simp [h2], x :: xs, ⟨hx, h3⟩, by simp [h4], fun i y w hy hw => ?_⟩
    cases i with
    | zero =>
      simp at hy hw
      subst hy
      subst hw
      exact hr
    | succ i => exact h5 i y w (by simpa using hy) (by simpa using hw)

theorem stay_all {W' : World} {sp : Nat → Bool} : ∀ (L : List (TypeId × (DV → Prop))), (∀ c ∈ L, Rd c.1 c.2) → ∀ (vs : List Value) (ds : List (DataW H)) (ps : List MemPlace),
    DataW.TrodAll enc Try.prog W 0 (fun _ => true) true (L.map (·.1)) vs ds ps → (∀ y ∈ ps, y.block < W.heap.size) → Below W.heap.size W W' → (∀ y ∈ ps, sp y.block = true) →
    DataW.TrodAll enc Try.prog W' 0 sp true (L.map (·.1)) vs ds ps
  | [], _, vs, ds, ps, h, _, _, _ => by
    obtain ⟨rfl, rfl, rfl⟩ := trodAll_nil h
    exact trodAll_mk0
  | c :: L, hc, vs, ds, ps, h, hlt, hb, hsp => by
    obtain ⟨v, vs', d, ds', p, q, rfl, rfl, rfl, hd, hrest⟩ := trodAll_cons h
    have hrd := hc c (by simp)
    exact ⟨p, q, WideElems.Trod_stays (by kernel_rfl) hrd.rec' hrd.lt hd (fun y hy => hb.same (hlt y (by simp [hy]))) (fun y hy => hsp y (by simp [hy])),
      stay_all L (fun c h => hc c (by simp [h])) vs' ds' q hrest (fun y hy => hlt y (by simp [hy])) hb (fun y hy => hsp y (by simp [hy])), rfl⟩
end

/-- A contract of the walk gives a statement's contract. -/
theorem link {f : FuncId} {fn : Func} (L : List (TypeId × (DV → Prop))) (hL : ∀ c ∈ L, Rd c.1 c.2) (hf : ∀ xs, AllC L xs → Fn Try.prog f xs (.bool true)) (hfn : fn.params = (L.map (·.1)).toArray) (hr : fn.resultTypes = #[4])
    (s : ChangeSpec) (hv : s.vars = []) (hs : ∀ (H : Type) (ds : List (DataW H)), ds.length = L.length → s.fn H ds = { results := [.lit (.bool true)], args := ds })
    {H : Type} {enc : TypeId × Value → H} {W : World} {args : Array Value} {ds gs : List (DataW H)} {before : List MemPlace}
    {base : Nat} (hval : ∀ (j : Nat) t v, fn.params[j]? = some t → args[j]? = some v → Value.okWide Try.prog W .any base t v)
    (hW : DataW.Whole enc Try.prog fn.params.toList s.vars false W args.toList ds gs before) (hk : Rows.uptoSmall H (ds ++ gs) = true) :
    Calls Try.prog f args W fun e W' => ∃ v, e = .returned v ∧ s.post enc Try.prog fn false true false false W args v W' := by
  have hW' := hW
  obtain ⟨p, q, hA, hV, rfl, hfz, hnd⟩ := hW
  rw [hfn] at hA
  rw [hv] at hV
  obtain ⟨rfl, rfl⟩ := trodVars_none hV
  have hb := of_decide_eq_true hk
  simp only [List.append_nil] at hb
  obtain ⟨l1, l2, xs, hxs, l3, hrel⟩ := read_all (base := base) L hL _ _ _ (fun j t v h1 h2 => hval j t v (by rw [hfn]; simpa using h1) (by simpa using h2)) hA hb
  have hc := (hf xs hxs).2 W (fun _ => False) args (fun _ h => h.elim) ⟨by rw [l3, ← l1]; simp, fun i x v h1 h2 => hrel i x v h1 (by simpa using h2)⟩
  refine hc.mono fun e W' h => ?_
  obtain ⟨v, rfl, hvr, hbel⟩ := h
  cases hvr
  refine ⟨_, rfl, ?_⟩
  have hlt : ∀ y ∈ p, y.block < W.heap.size := fun y hy => hW'.lt y (by simpa using hy)
  have hok : Value.okWide Try.prog W' .any 0 4 (.bool true) := okWide_bool_mk (t := 4) Try.underlying4 true
  have hsf : s.fn H (ds ++ []) = { results := [.lit (.bool true)], args := ds } := by rw [List.append_nil]; exact hs H ds l2
  refine post_of_below (pa := p) (pv := []) hW' ?_ ?_ ?_ (by simp) hbel ?_
  · intro b sp hd
    rw [hr, hsf]
    exact trodAll_mk1 (shut_bool Try.underlying4 _)
  · intro sp hsp
    rw [hfn, hsf]
    exact stay_all L hL _ _ _ hA hlt hbel (fun y hy => hsp y (by simpa using hy))
  · intro sp hsp
    rw [hv, hsf]
    rfl
  · exact ok_one hr rfl hok

abbrev aP : TypeId × (DV → Prop) := (30, fun x => ∃ p : Plant, x = .agg p.cells ∧ PlantSmall p)
abbrev aB : TypeId × (DV → Prop) := (26, fun x => ∃ l : List Int, x = .sl (intRows l) ∧ l.length < 2 ^ 30)
abbrev aW : TypeId × (DV → Prop) := (49, fun x => ∃ l : List Sky, x = .sl (skyRows l) ∧ l.length < 2 ^ 30)
abbrev aI : TypeId × (DV → Prop) := (3, fun x => ∃ n : Int, x = .i n)
theorem rdAll : ∀ c ∈ [aP, aB, aW, aI], Rd c.1 c.2 := by
  intro c hc
  rcases List.mem_cons.1 hc with rfl | hc
  · exact rdPlant
  rcases List.mem_cons.1 hc with rfl | hc
  · exact rdInts
  rcases List.mem_cons.1 hc with rfl | hc
  · exact rdSkies
  rcases List.mem_cons.1 hc with rfl | hc
  · exact rdInt
  · cases hc
theorem allC1 {c : TypeId × (DV → Prop)} {xs : List DV} (h : AllC [c] xs) : ∃ x, xs = [x] ∧ c.2 x := by
  match xs, h with
  | [x], h => exact ⟨x, rfl, h.1⟩
theorem allC2 {c d : TypeId × (DV → Prop)} {xs : List DV} (h : AllC [c, d] xs) : ∃ x y, xs = [x, y] ∧ c.2 x ∧ d.2 y := by
  match xs, h with
  | [x, y], h => exact ⟨x, y, rfl, h.1, h.2.1⟩
theorem allC3 {c d e : TypeId × (DV → Prop)} {xs : List DV} (h : AllC [c, d, e] xs) : ∃ x y z, xs = [x, y, z] ∧ c.2 x ∧ d.2 y ∧ e.2 z := by
  match xs, h with
  | [x, y, z], h => exact ⟨x, y, z, rfl, h.1, h.2.1, h.2.2.1⟩
end Go.Ab
namespace Go.Ab
open Go.RowKit Go.Proofs
set_option maxHeartbeats 8000000
set_option maxRecDepth 20000
attribute [local irreducible] WalkL Walk

/-! ### What an hour yields -/

def yieldW (p : Plant) (h : Int) (s : Sky) : Int :=
  if withinB s.wind p.start p.stop then wr (wr ((wr (getI p.sun h * wr (100 - s.rain))).tdiv 100) + wr (p.gain * s.wind)) else wr ((wr (getI p.sun h * wr (100 - s.rain))).tdiv 100)

theorem f63 (g : Grid) (h : Int) (s : Sky) (hh : 0 ≤ h ∧ h.toNat < g.p.sun.length) : Fn Try.prog 63 [.ptr g.cells 0, .i h, .agg s.row] (.i (yieldW g.p h s)) := by
  have g1 : (intRows g.p.sun)[h.toNat]? = some [.i (getI g.p.sun h)] := intRows_get hh.1 hh.2
  have h80 := f80 s.wind g.p.start g.p.stop
  refine fn_walk 45 Try.call63 Try.func63 rfl (by decide) fun J => ?_
  simp (maxSteps := 4000000) only [go_sem, St.start, Try.ntmps63, Try.results63, Grid.cells, Sky.row]
  cases q : withinB s.wind g.p.start g.p.stop
  all_goals
    rw [q] at h80
    repeat (first | refine walkL_true rfl ?_ | refine walkL_false rfl ?_ | refine walkL_seq ?_ | refine walkL_skip ?_ | refine walkL_block ?_ | (refine walkL_region fun K hK => ?_; simp (maxSteps := 4000000) only [go_sem, g1, hh.1, hh.2]; (repeat (first | (refine ⟨_, .lent (hf := h80) (hd := rfl) (hr := rfl), ?_⟩; simp (maxSteps := 4000000) only [go_sem, g1, hh.1, hh.2]) | (refine ⟨_, .given (hf := h80) (hd := rfl) (ha := rfl), ?_⟩; simp (maxSteps := 4000000) only [go_sem, g1, hh.1, hh.2]))); refine hK _ ?_; clear hK K) | (refine walkL_drawn (by kernel_rfl) (by kernel_rfl) fun K hK => ?_; simp (maxSteps := 4000000) only [go_sem, g1, hh.1, hh.2]; (repeat (first | (refine ⟨_, .fn (hf := h80) (hd := rfl) (hr := .inl rfl), ?_⟩; simp (maxSteps := 4000000) only [go_sem, g1, hh.1, hh.2]))); refine ⟨by kernel_rfl, hK _ ?_⟩; clear hK K) | refine walkL_nil ?_ | refine walkL_ret ?_ | refine walkL_exit ?_ | refine blockA_here ?_ | refine blockA_other rfl ?_ | refine blockA_ret ?_ | refine blockA_normal ?_ | refine thenA_ret ?_ | refine thenA_exit ?_ | refine thenA_normal ?_)
    simp (maxSteps := 4000000) only [go_sem, yieldW, q, if_true, Bool.false_eq_true, if_false]

def worstW (p : Plant) (h : Hour) : Sky := ⟨if decide (h.wind.lo ≥ p.start) && decide (h.wind.hi > p.stop) then h.wind.hi else h.wind.lo, h.rain.hi, h.temp.lo⟩
def bestW (p : Plant) (h : Hour) : Sky := ⟨if decide (p.stop < h.wind.hi) && decide (p.stop ≥ h.wind.lo) then p.stop else h.wind.hi, h.rain.lo, h.temp.lo⟩

theorem f64 (g : Grid) (h : Hour) : Fn Try.prog 64 [.ptr g.cells 0, .agg h.row] (.agg (worstW g.p h).row) := by
  refine fn_walk 41 Try.call64 Try.func64 rfl (by decide) fun J => ?_
  simp (maxSteps := 4000000) only [go_sem, St.start, Try.ntmps64, Try.results64, Grid.cells, Hour.row]
  cases q1 : decide (h.wind.lo ≥ g.p.start) <;> cases q2 : decide (h.wind.hi > g.p.stop)
  all_goals
    repeat (first | refine walkL_true rfl ?_ | refine walkL_false rfl ?_ | refine walkL_seq ?_ | refine walkL_skip ?_ | refine walkL_block ?_ | (refine walkL_region fun K hK => ?_; simp (maxSteps := 4000000) only [go_sem, q1, q2]; refine hK _ ?_; clear hK K) | (refine walkL_drawn (by kernel_rfl) (by kernel_rfl) fun K hK => ?_; simp (maxSteps := 4000000) only [go_sem, q1, q2]; refine ⟨by kernel_rfl, hK _ ?_⟩; clear hK K) | refine walkL_nil ?_ | refine walkL_ret ?_ | refine walkL_exit ?_ | refine blockA_here ?_ | refine blockA_other rfl ?_ | refine blockA_ret ?_ | refine blockA_normal ?_ | refine thenA_ret ?_ | refine thenA_exit ?_ | refine thenA_normal ?_)
    simp (maxSteps := 4000000) only [go_sem, worstW, Sky.row, q1, q2, if_true, Bool.false_eq_true, if_false, Bool.and_true, Bool.and_false, Bool.and_self]

theorem f65 (g : Grid) (h : Hour) : Fn Try.prog 65 [.ptr g.cells 0, .agg h.row] (.agg (bestW g.p h).row) := by
  refine fn_walk 43 Try.call65 Try.func65 rfl (by decide) fun J => ?_
  simp (maxSteps := 4000000) only [go_sem, St.start, Try.ntmps65, Try.results65, Grid.cells, Hour.row]
  cases q1 : decide (g.p.stop < h.wind.hi) <;> cases q2 : decide (g.p.stop ≥ h.wind.lo)
  all_goals
    repeat (first | refine walkL_true rfl ?_ | refine walkL_false rfl ?_ | refine walkL_seq ?_ | refine walkL_skip ?_ | refine walkL_block ?_ | (refine walkL_region fun K hK => ?_; simp (maxSteps := 4000000) only [go_sem, q1, q2]; refine hK _ ?_; clear hK K) | (refine walkL_drawn (by kernel_rfl) (by kernel_rfl) fun K hK => ?_; simp (maxSteps := 4000000) only [go_sem, q1, q2]; refine ⟨by kernel_rfl, hK _ ?_⟩; clear hK K) | refine walkL_nil ?_ | refine walkL_ret ?_ | refine walkL_exit ?_ | refine blockA_here ?_ | refine blockA_other rfl ?_ | refine blockA_ret ?_ | refine blockA_normal ?_ | refine thenA_ret ?_ | refine thenA_exit ?_ | refine thenA_normal ?_)
    simp (maxSteps := 4000000) only [go_sem, bestW, Sky.row, q1, q2, if_true, Bool.false_eq_true, if_false, Bool.and_true, Bool.and_false, Bool.and_self]

def leastW (p : Plant) (l : List Hour) : List Sky := l.map (worstW p)

theorem skyRows_push (a : List Sky) (s : Sky) : skyRows (a ++ [s]) = skyRows a ++ [s.row] := by simp [skyRows]

theorem f88 (g : Grid) (l : List Hour) (hl : l.length < 2 ^ 30) : Fn Try.prog 88 [.ptr g.cells 0, .sl (hourRows l)] (.sl (skyRows (leastW g.p l))) := by
  refine fn_walk 22 Try.call88 Try.func88 rfl (by decide) fun J => ?_
  simp (maxSteps := 4000000) only [go_sem, St.start, Try.ntmps88, Try.results88, Grid.cells]
  repeat (first | refine walkL_seq ?_ | refine walkL_skip ?_ | refine walkL_block ?_ | (refine walkL_region fun K hK => ?_; simp (maxSteps := 4000000) only [go_sem]; refine hK _ ?_; clear hK K) | refine walkL_nil ?_ | refine walkL_ret ?_ | refine walkL_exit ?_ | refine blockA_here ?_ | refine blockA_other rfl ?_ | refine blockA_ret ?_ | refine blockA_normal ?_ | refine thenA_ret ?_ | refine thenA_exit ?_ | refine thenA_normal ?_)
  refine walkL_loopS (fun (i : Nat) => [(10, .d (.i i)), (5, .own 19)]) (fun i => [(19, some (.arr 54 3 (skyRows (leastW g.p (l.take i)))))]) (fun i => i ≤ l.length) (fun i => l.length - i) 0 ?_ (Nat.zero_le _) ?_
  · simp (maxSteps := 4000000) only [go_sem]
    refine weak_of [19] ?_ ?_ rfl rfl <;> simp [lessT, lessM, lessB, AV.less]
    all_goals first | done | rfl
  · intro i hi
    simp (maxSteps := 4000000) only [go_sem]
    repeat (first | refine walkL_seq ?_ | refine walkL_skip ?_ | refine walkL_block ?_ | (refine walkL_region fun K hK => ?_; simp (maxSteps := 4000000) only [go_sem]; refine hK _ ?_; clear hK K) | refine walkL_nil ?_ | refine walkL_ret ?_ | refine walkL_exit ?_ | refine blockA_here ?_ | refine blockA_other rfl ?_ | refine blockA_ret ?_ | refine blockA_normal ?_ | refine thenA_ret ?_ | refine thenA_exit ?_ | refine thenA_normal ?_)
    refine walkL_cond rfl (fun hb => ?_) (fun hb => ?_)
    · have hlt : i < l.length := by simpa using hb
      have hw : IntKind.i64.wrap ((i : Int) + 1) = ((i + 1 : Nat) : Int) := by rw [wr_small (by omega)]; simp
      obtain ⟨h, hx⟩ : ∃ h, l[i]? = some h := ⟨_, List.getElem?_eq_getElem hlt⟩
      have g1 := hourRows_at hx
      have h64 := f64 g h
      rw [Grid.cells, Hour.row, Sky.row] at h64
      have htk : leastW g.p (l.take (i + 1)) = leastW g.p (l.take i) ++ [worstW g.p h] := by rw [List.take_add_one, hx]; simp [leastW]
      have hn : (leastW g.p (l.take i)).length + 1 ≤ 549755813888 := by simp [leastW]; omega
      repeat (first | refine walkL_seq ?_ | refine walkL_skip ?_ | refine walkL_block ?_ | (refine walkL_region fun K hK => ?_; simp (maxSteps := 4000000) only [go_sem, g1, Hour.row, hn, hw]; (repeat (first | (refine ⟨_, .lent (hf := h64) (hd := rfl) (hr := rfl), ?_⟩; simp (maxSteps := 4000000) only [go_sem, g1, Hour.row, hn, hw]) | (refine ⟨_, .given (hf := h64) (hd := rfl) (ha := rfl), ?_⟩; simp (maxSteps := 4000000) only [go_sem, g1, Hour.row, hn, hw]))); refine hK _ ?_; clear hK K) | refine walkL_nil ?_ | refine walkL_ret ?_ | refine walkL_exit ?_ | refine blockA_here ?_ | refine blockA_other rfl ?_ | refine blockA_ret ?_ | refine blockA_normal ?_ | refine thenA_ret ?_ | refine thenA_exit ?_ | refine thenA_normal ?_)
      refine ⟨rfl, i + 1, ?_, hlt, by omega⟩
      rw [htk, skyRows_push]
      refine weak_of [] ?_ ?_ rfl rfl <;> simp [lessT, lessM, lessB, AV.less]
      all_goals first | done | rfl
    · have he : i = l.length := by (have : ¬ i < l.length := by simpa using hb); omega
      subst he
      rw [List.take_length]
      repeat (first | refine walkL_seq ?_ | refine walkL_skip ?_ | refine walkL_block ?_ | (refine walkL_region fun K hK => ?_; simp (maxSteps := 4000000) only [go_sem]; refine hK _ ?_; clear hK K) | refine walkL_nil ?_ | refine walkL_ret ?_ | refine walkL_exit ?_ | refine blockA_here ?_ | refine blockA_other rfl ?_ | refine blockA_ret ?_ | refine blockA_normal ?_ | refine thenA_ret ?_ | refine thenA_exit ?_ | refine thenA_normal ?_)
      simp (maxSteps := 4000000) only [go_sem]

/-! ### Levels -/

def noSky : Sky := ⟨0, 0, 0⟩
def skyAt (l : List Sky) (i : Nat) : Sky := l.getD i noSky
theorem skyAt_get {l : List Sky} {i : Nat} (h : i < l.length) : l[i]? = some (skyAt l i) := by
  unfold skyAt
  rw [List.getD, List.getElem?_eq_getElem h]
  rfl

def allOf (p : Plant) (burn : List Int) (skies : List Sky) (lv : Int) (j : Nat) : Int :=
  wr (wr (wr (lv + yieldW p j (skyAt skies j)) + wr (p.gas * getI burn j)) - getI p.needs j)
def lvAt (p : Plant) (burn : List Int) (skies : List Sky) : Nat → Int
  | 0 => p.charge
  | j + 1 => min (allOf p burn skies (lvAt p burn skies j) j) p.capacity
def lostAt (p : Plant) (burn : List Int) (skies : List Sky) (j : Nat) : Int := wr (allOf p burn skies (lvAt p burn skies j) j - lvAt p burn skies (j + 1))
def levItems (p : Plant) (burn : List Int) (skies : List Sky) : List (List DV) := (List.range skies.length).map fun j => [.i (lvAt p burn skies (j + 1)), .i (lostAt p burn skies j)]

theorem f62 (g : Grid) (burn : List Int) (skies : List Sky) : Fn Try.prog 62 [.ptr g.cells 0, .sl (intRows burn), .sl (skyRows skies)] (.fn 95 [.ptr [.ptr g.cells 0] 0, .ptr [.sl (skyRows skies)] 0, .ptr [.sl (intRows burn)] 0]) := by
  refine fn_walk 8 Try.call62 Try.func62 rfl (by decide) fun J => ?_
  simp (maxSteps := 4000000) only [go_sem, St.start, Try.ntmps62, Try.results62, Grid.cells]
  repeat (first | refine walkL_seq ?_ | refine walkL_skip ?_ | refine walkL_block ?_ | (refine walkL_region fun K hK => ?_; simp (maxSteps := 4000000) only [go_sem]; refine hK _ ?_; clear hK K) | refine walkL_nil ?_ | refine walkL_ret ?_ | refine walkL_exit ?_ | refine blockA_here ?_ | refine blockA_other rfl ?_ | refine blockA_ret ?_ | refine blockA_normal ?_ | refine thenA_ret ?_ | refine thenA_exit ?_ | refine thenA_normal ?_)
  simp (maxSteps := 4000000) only [go_sem]

theorem iter95 (g : Grid) (burn : List Int) (skies : List Sky) (h1 : skies.length ≤ burn.length) (h2 : skies.length ≤ g.p.sun.length) (h3 : skies.length ≤ g.p.needs.length) (hl : skies.length < 2 ^ 30) :
    Iter Try.prog 95 [.ptr [.ptr g.cells 0] 0, .ptr [.sl (skyRows skies)] 0, .ptr [.sl (intRows burn)] 0] (levItems g.p burn skies) := by
  refine iter_walk 64 Try.call95 Try.func95 rfl rfl fun l J B hS hG => ?_
  simp (maxSteps := 4000000) only [go_sem, St.start, Try.ntmps95, Grid.cells]
  repeat (first | refine walkL_seq ?_ | refine walkL_skip ?_ | refine walkL_block ?_ | (refine walkL_region fun K hK => ?_; simp (maxSteps := 4000000) only [go_sem]; refine hK _ ?_; clear hK K) | refine walkL_nil ?_ | refine walkL_ret ?_ | refine walkL_exit ?_ | refine blockA_here ?_ | refine blockA_other rfl ?_ | refine blockA_ret ?_ | refine blockA_normal ?_ | refine thenA_ret ?_ | refine thenA_exit ?_ | refine thenA_normal ?_)
  refine walkL_loopK (fun (j : Nat) => [(17, .d (.i j)), (5, .d (.i (lvAt g.p burn skies j)))]) (fun _ => []) (fun k j => j ≤ skies.length ∧ k = some j) (fun j => skies.length - j) 0 ?_ ⟨Nat.zero_le _, rfl⟩ ?_
  · simp (maxSteps := 4000000) only [go_sem, lvAt]
    refine weak_of [] ?_ ?_ rfl rfl <;> simp [lessT, lessM, lessB, AV.less]
  · rintro k j ⟨hj, rfl⟩
    simp (maxSteps := 4000000) only [go_sem]
    repeat (first | refine walkL_seq ?_ | refine walkL_skip ?_ | refine walkL_block ?_ | (refine walkL_region fun K hK => ?_; simp (maxSteps := 4000000) only [go_sem]; refine hK _ ?_; clear hK K) | refine walkL_nil ?_ | refine walkL_ret ?_ | refine walkL_exit ?_ | refine blockA_here ?_ | refine blockA_other rfl ?_ | refine blockA_ret ?_ | refine blockA_normal ?_ | refine thenA_ret ?_ | refine thenA_exit ?_ | refine thenA_normal ?_)
    refine walkL_cond rfl (fun hb => ?_) (fun hb => ?_)
    · have hlt : j < skies.length := by simpa using hb
      have hw : IntKind.i64.wrap ((j : Int) + 1) = ((j + 1 : Nat) : Int) := by rw [wr_small (by omega)]; simp
      have g1 := skyRows_at (skyAt_get hlt)
      have g2 : (intRows burn)[j]? = some [.i (getI burn j)] := by have := intRows_get (l := burn) (i := (j : Int)) (by omega) (by simp; omega); simpa using this
      have g3 : (intRows g.p.needs)[j]? = some [.i (getI g.p.needs j)] := by have := intRows_get (l := g.p.needs) (i := (j : Int)) (by omega) (by simp; omega); simpa using this
      have h63 := f63 g j (skyAt skies j) ⟨by omega, by simp; omega⟩
      rw [Grid.cells, Sky.row] at h63
      have e1 : wr (wr (wr (lvAt g.p burn skies j + yieldW g.p j (skyAt skies j)) + wr (g.p.gas * getI burn j)) - getI g.p.needs j) = allOf g.p burn skies (lvAt g.p burn skies j) j := rfl
      have e2 : min (allOf g.p burn skies (lvAt g.p burn skies j) j) g.p.capacity = lvAt g.p burn skies (j + 1) := rfl
      have e3 : wr (allOf g.p burn skies (lvAt g.p burn skies j) j - lvAt g.p burn skies (j + 1)) = lostAt g.p burn skies j := rfl
      have hget : (levItems g.p burn skies)[j]? = some [.i (lvAt g.p burn skies (j + 1)), .i (lostAt g.p burn skies j)] := by
        simp [levItems, List.getElem?_map, List.getElem?_range hlt]
      repeat (first | refine walkL_seq ?_ | refine walkL_skip ?_ | refine walkL_block ?_ | (refine walkL_region fun K hK => ?_; simp (maxSteps := 4000000) only [go_sem, g1, Sky.row]; refine hK _ ?_; clear hK K) | refine walkL_nil ?_ | refine walkL_ret ?_ | refine walkL_exit ?_ | refine blockA_here ?_ | refine blockA_other rfl ?_ | refine blockA_ret ?_ | refine blockA_normal ?_ | refine thenA_ret ?_ | refine thenA_exit ?_ | refine thenA_normal ?_)
      refine walkL_drawn (by kernel_rfl) (by kernel_rfl) fun K hK => ?_
      simp (maxSteps := 4000000) only [go_sem, g1, g2, g3, Sky.row]
      refine ⟨_, .fn (hf := h63) (hd := rfl) (hr := .inl rfl), ?_⟩
      simp (maxSteps := 4000000) only [go_sem, g2, g3]
      refine ⟨by kernel_rfl, hK _ ?_⟩
      clear hK K
      repeat (first | refine walkL_seq ?_ | refine walkL_skip ?_ | refine walkL_block ?_ | (refine walkL_region fun K hK => ?_; simp (maxSteps := 4000000) only [go_sem, e1, e2]; refine hK _ ?_; clear hK K) | refine walkL_nil ?_ | refine walkL_ret ?_ | refine walkL_exit ?_ | refine blockA_here ?_ | refine blockA_other rfl ?_ | refine blockA_ret ?_ | refine blockA_normal ?_ | refine thenA_ret ?_ | refine thenA_exit ?_ | refine thenA_normal ?_)
      refine walkL_regionY hS hG fun K hK => ?_
      simp (maxSteps := 4000000) only [go_sem, e3]
      refine ⟨rfl, j, [.i (lvAt g.p burn skies (j + 1)), .i (lostAt g.p burn skies j)], rfl, rfl, hget, ?_, ?_⟩
      · simp (maxSteps := 4000000) only [go_sem]
        refine hK _ _ ?_
        clear hK K
        refine walkL_false rfl ?_
        repeat (first | refine walkL_seq ?_ | refine walkL_skip ?_ | refine walkL_block ?_ | (refine walkL_region fun K hK => ?_; simp (maxSteps := 4000000) only [go_sem, hw]; refine hK _ ?_; clear hK K) | refine walkL_nil ?_ | refine walkL_ret ?_ | refine walkL_exit ?_ | refine blockA_here ?_ | refine blockA_other rfl ?_ | refine blockA_ret ?_ | refine blockA_normal ?_ | refine thenA_ret ?_ | refine thenA_exit ?_ | refine thenA_normal ?_)
        refine ⟨j + 1, ?_, ⟨hlt, rfl⟩, by omega⟩
        refine weak_of [] ?_ ?_ rfl rfl <;> simp [lessT, lessM, lessB, AV.less]
      · simp (maxSteps := 4000000) only [go_sem]
        refine hK _ _ ?_
        clear hK K
        refine walkL_true rfl ?_
        repeat (first | refine walkL_seq ?_ | refine walkL_skip ?_ | refine walkL_block ?_ | (refine walkL_region fun K hK => ?_; simp (maxSteps := 4000000) only [go_sem]; refine hK _ ?_; clear hK K) | refine walkL_nil ?_ | refine walkL_ret ?_ | refine walkL_exit ?_ | refine blockA_here ?_ | refine blockA_other rfl ?_ | refine blockA_ret ?_ | refine blockA_normal ?_ | refine thenA_ret ?_ | refine thenA_exit ?_ | refine thenA_normal ?_)
        exact ⟨trivial, .inr rfl⟩
    · have he : j = skies.length := by (have : ¬ j < skies.length := by simpa using hb); omega
      subst he
      repeat (first | refine walkL_seq ?_ | refine walkL_skip ?_ | refine walkL_block ?_ | (refine walkL_region fun K hK => ?_; simp (maxSteps := 4000000) only [go_sem]; refine hK _ ?_; clear hK K) | refine walkL_nil ?_ | refine walkL_ret ?_ | refine walkL_exit ?_ | refine blockA_here ?_ | refine blockA_other rfl ?_ | refine blockA_ret ?_ | refine blockA_normal ?_ | refine thenA_ret ?_ | refine thenA_exit ?_ | refine thenA_normal ?_)
      refine ⟨trivial, .inl ?_⟩
      simp [levItems]
end Go.Ab
namespace Go.Ab
open Go.RowKit Go.Proofs
set_option maxHeartbeats 8000000
set_option maxRecDepth 20000
attribute [local irreducible] WalkL Walk

/-! ### Through how many hours it lasts -/

/-- Of so many, how many are so ahead of the first that is not. -/
def countTo (q : Nat → Bool) : Nat → Nat → Nat
  | 0, i => i
  | k + 1, i => if q i then countTo q k (i + 1) else i

theorem countTo_le (q : Nat → Bool) : ∀ (k i : Nat), i ≤ countTo q k i ∧ countTo q k i ≤ i + k
  | 0, i => by simp [countTo]
  | k + 1, i => by
    rw [countTo]
    have := countTo_le q k (i + 1)
    split <;> omega

def lastsW (p : Plant) (burn : List Int) (skies : List Sky) : Nat := countTo (fun j => !decide (lvAt p burn skies (j + 1) < p.reserve)) skies.length 0

theorem f89 (g : Grid) (burn : List Int) (skies : List Sky) (h1 : skies.length ≤ burn.length) (h2 : skies.length ≤ g.p.sun.length) (h3 : skies.length ≤ g.p.needs.length) (hl : skies.length < 2 ^ 30) :
    Fn Try.prog 89 [.ptr g.cells 0, .sl (intRows burn), .sl (skyRows skies)] (.i (lastsW g.p burn skies)) := by
  have hit := iter95 g burn skies h1 h2 h3 hl
  have h62 := f62 g burn skies
  have hlen : (levItems g.p burn skies).length = skies.length := by simp [levItems]
  rw [Grid.cells] at hit h62
  refine fn_walk 25 Try.call89 Try.func89 rfl (by decide) fun J => ?_
  simp (maxSteps := 4000000) only [go_sem, St.start, Try.ntmps89, Try.results89, Grid.cells]
  repeat (first | refine walkL_seq ?_ | refine walkL_skip ?_ | refine walkL_block ?_ | (refine walkL_region fun K hK => ?_; simp (maxSteps := 4000000) only [go_sem]; refine hK _ ?_; clear hK K) | refine walkL_nil ?_ | refine walkL_ret ?_ | refine walkL_exit ?_ | refine blockA_here ?_ | refine blockA_other rfl ?_ | refine blockA_ret ?_ | refine blockA_normal ?_ | refine thenA_ret ?_ | refine thenA_exit ?_ | refine thenA_normal ?_)
  refine walkL_region fun K hK => ?_
  simp (maxSteps := 4000000) only [go_sem]
  refine ⟨_, .given (hf := h62) (hd := rfl) (ha := rfl), ?_⟩
  simp (maxSteps := 4000000) only [go_sem]
  refine hK _ ?_
  clear hK K
  repeat (first | refine walkL_seq ?_ | refine walkL_skip ?_ | refine walkL_block ?_ | (refine walkL_region fun K hK => ?_; simp (maxSteps := 4000000) only [go_sem]; refine hK _ ?_; clear hK K) | refine walkL_nil ?_ | refine walkL_ret ?_ | refine walkL_exit ?_ | refine blockA_here ?_ | refine blockA_other rfl ?_ | refine blockA_ret ?_ | refine blockA_normal ?_ | refine thenA_ret ?_ | refine thenA_exit ?_ | refine thenA_normal ?_)
  refine walkL_rangeS (g := .tmp 11) rfl hit (by intro row hr; obtain ⟨w, _, rfl⟩ := List.mem_map.1 hr; rfl) (fun _ => []) (fun (a : Nat) => [(6, some (.box [.d (.i a)]))])
    (fun i a => a = i ∧ i ≤ skies.length ∧ lastsW g.p burn skies = countTo (fun j => !decide (lvAt g.p burn skies (j + 1) < g.p.reserve)) (skies.length - i) i) (fun e a => e = .exit 0 ∧ a = lastsW g.p burn skies) 0 ?_ ⟨rfl, Nat.zero_le _, rfl⟩ ?_ ?_ ?_
  · simp (maxSteps := 4000000) only [go_sem]
    refine weak_of [] ?_ ?_ rfl rfl <;> simp [lessT, lessM, lessB, AV.less]
  · rintro i a row hi ⟨rfl, hle, hlast⟩ l2 m2
    have hlt : a < skies.length := by rw [← hlen]; exact (List.getElem?_eq_some_iff.1 hi).1
    have hrow : row = [.i (lvAt g.p burn skies (a + 1)), .i (lostAt g.p burn skies a)] := by
      have : (levItems g.p burn skies)[a]? = some [.i (lvAt g.p burn skies (a + 1)), .i (lostAt g.p burn skies a)] := by simp [levItems, List.getElem?_map, List.getElem?_range hlt]
      rw [hi] at this
      exact Option.some.inj this
    subst hrow
    rw [show skies.length - a = (skies.length - (a + 1)) + 1 by omega, countTo] at hlast
    have hw : IntKind.i64.wrap ((a : Int) + 1) = ((a + 1 : Nat) : Int) := by rw [wr_small (by omega)]; simp
    simp (maxSteps := 4000000) only [go_sem]
    repeat (first | refine walkL_seq ?_ | refine walkL_skip ?_ | refine walkL_block ?_ | (refine walkL_region fun K hK => ?_; simp (maxSteps := 4000000) only [go_sem]; refine hK _ ?_; clear hK K) | refine walkL_nil ?_ | refine walkL_ret ?_ | refine walkL_exit ?_ | refine blockA_here ?_ | refine blockA_other rfl ?_ | refine blockA_ret ?_ | refine blockA_normal ?_ | refine thenA_ret ?_ | refine thenA_exit ?_ | refine thenA_normal ?_)
    refine walkL_cond rfl (fun hc => ?_) (fun hc => ?_)
    · rw [hc] at hlast
      repeat (first | refine walkL_seq ?_ | refine walkL_skip ?_ | refine walkL_block ?_ | (refine walkL_region fun K hK => ?_; simp (maxSteps := 4000000) only [go_sem]; refine hK _ ?_; clear hK K) | refine walkL_nil ?_ | refine walkL_ret ?_ | refine walkL_exit ?_ | refine blockA_here ?_ | refine blockA_other rfl ?_ | refine blockA_ret ?_ | refine blockA_normal ?_ | refine thenA_ret ?_ | refine thenA_exit ?_ | refine thenA_normal ?_)
      refine ⟨rfl, rfl, a, ?_, rfl, by rw [hlast]; simp⟩
      simp (maxSteps := 4000000) only [go_sem]
      refine weak_of [] ?_ ?_ rfl rfl <;> simp [lessT, lessM, lessB, AV.less]
    · rw [hc] at hlast
      repeat (first | refine walkL_seq ?_ | refine walkL_skip ?_ | refine walkL_block ?_ | (refine walkL_region fun K hK => ?_; simp (maxSteps := 4000000) only [go_sem, hw]; refine hK _ ?_; clear hK K) | refine walkL_nil ?_ | refine walkL_ret ?_ | refine walkL_exit ?_ | refine blockA_here ?_ | refine blockA_other rfl ?_ | refine blockA_ret ?_ | refine blockA_normal ?_ | refine thenA_ret ?_ | refine thenA_exit ?_ | refine thenA_normal ?_)
      refine ⟨rfl, a + 1, ?_, rfl, hlt, by rw [hlast]; simp⟩
      simp (maxSteps := 4000000) only [go_sem]
      refine weak_of [] ?_ ?_ rfl rfl <;> simp [lessT, lessM, lessB, AV.less]
  · rintro a ⟨rfl, _, hlast⟩
    rw [hlen, Nat.sub_self, countTo] at hlast
    rw [hlen]
    simp (maxSteps := 4000000) only [go_sem]
    repeat (first | refine walkL_seq ?_ | refine walkL_skip ?_ | refine walkL_block ?_ | (refine walkL_region fun K hK => ?_; simp (maxSteps := 4000000) only [go_sem]; refine hK _ ?_; clear hK K) | refine walkL_nil ?_ | refine walkL_ret ?_ | refine walkL_exit ?_ | refine blockA_here ?_ | refine blockA_other rfl ?_ | refine blockA_ret ?_ | refine blockA_normal ?_ | refine thenA_ret ?_ | refine thenA_exit ?_ | refine thenA_normal ?_)
    simp (maxSteps := 4000000) only [go_sem, hlast]
  · rintro e a ⟨rfl, rfl⟩ _
    simp (maxSteps := 4000000) only [go_sem]
    repeat (first | refine walkL_seq ?_ | refine walkL_skip ?_ | refine walkL_block ?_ | (refine walkL_region fun K hK => ?_; simp (maxSteps := 4000000) only [go_sem]; refine hK _ ?_; clear hK K) | refine walkL_nil ?_ | refine walkL_ret ?_ | refine walkL_exit ?_ | refine blockA_here ?_ | refine blockA_other rfl ?_ | refine blockA_ret ?_ | refine blockA_normal ?_ | refine thenA_ret ?_ | refine thenA_exit ?_ | refine thenA_normal ?_)
    simp (maxSteps := 4000000) only [go_sem]

theorem lastsW_le (p : Plant) (burn : List Int) (skies : List Sky) : lastsW p burn skies ≤ skies.length := by
  have := countTo_le (fun j => !decide (lvAt p burn skies (j + 1) < p.reserve)) skies.length 0
  unfold lastsW
  omega

/-! ### The hardest weather -/

/-- What is needed of a plant that has been checked. -/
structure GridOk (g : Grid) (H : Nat) : Prop where
  hours : g.hours = H
  pos : 1 ≤ H ∧ H ≤ 48
  sun : g.p.sun.length = H
  needs : g.p.needs.length = H
  scen : g.scen ≠ [] ∧ g.scen.length < 2 ^ 20
  len : ∀ l ∈ g.scen, l.length = H
  rate : 0 ≤ g.p.rate ∧ g.p.rate ≤ 10
  units : 0 ≤ g.p.units ∧ g.p.units ≤ 200

def hardStep (p : Plant) (burn : List Int) (a : List Sky × Int) (l : List Hour) : List Sky × Int :=
  if (lastsW p burn (leastW p l) : Int) < a.2 then (leastW p l, (lastsW p burn (leastW p l) : Int)) else a
def hardF (g : Grid) (burn : List Int) : List Sky × Int := g.scen.foldl (hardStep g.p burn) ([], g.hours + 1)

theorem leastW_len (p : Plant) (l : List Hour) : (leastW p l).length = l.length := by simp [leastW]

theorem f51 (g : Grid) (H : Nat) (burn : List Int) (hg : GridOk g H) (hb : burn.length = H) : Fn Try.prog 51 [.ptr g.cells 0, .sl (intRows burn)] (.tup [.sl (skyRows (hardF g burn).1), .i (hardF g burn).2]) := by
  have hpos := hg.pos
  have hsc := hg.scen.2
  have hw0 : IntKind.i64.wrap (g.hours + 1) = g.hours + 1 := wr_small (by rw [hg.hours]; omega)
  refine fn_walk 39 Try.call51 Try.func51 rfl (by decide) fun J => ?_
  simp (maxSteps := 4000000) only [go_sem, St.start, Try.ntmps51, Try.results51, Grid.cells]
  repeat (first | refine walkL_seq ?_ | refine walkL_skip ?_ | refine walkL_block ?_ | (refine walkL_region fun K hK => ?_; simp (maxSteps := 4000000) only [go_sem, hw0]; refine hK _ ?_; clear hK K) | refine walkL_nil ?_ | refine walkL_ret ?_ | refine walkL_exit ?_ | refine blockA_here ?_ | refine blockA_other rfl ?_ | refine blockA_ret ?_ | refine blockA_normal ?_ | refine thenA_ret ?_ | refine thenA_exit ?_ | refine thenA_normal ?_)
  refine walkL_loopS (fun (i : Nat) => [(20, .d (.i i)), (4, .d (.sl (skyRows ((g.scen.take i).foldl (hardStep g.p burn) ([], g.hours + 1)).1))), (5, .d (.i ((g.scen.take i).foldl (hardStep g.p burn) ([], g.hours + 1)).2))]) (fun _ => []) (fun i => i ≤ g.scen.length) (fun i => g.scen.length - i) 0 ?_ (Nat.zero_le _) ?_
  · simp (maxSteps := 4000000) only [go_sem, List.take_zero, List.foldl_nil]
    refine weak_of [] ?_ ?_ rfl rfl <;> simp [lessT, lessM, lessB, AV.less]
    all_goals first | done | rfl
  · intro i hi
    simp (maxSteps := 4000000) only [go_sem]
    repeat (first | refine walkL_seq ?_ | refine walkL_skip ?_ | refine walkL_block ?_ | (refine walkL_region fun K hK => ?_; simp (maxSteps := 4000000) only [go_sem]; refine hK _ ?_; clear hK K) | refine walkL_nil ?_ | refine walkL_ret ?_ | refine walkL_exit ?_ | refine blockA_here ?_ | refine blockA_other rfl ?_ | refine blockA_ret ?_ | refine blockA_normal ?_ | refine thenA_ret ?_ | refine thenA_exit ?_ | refine thenA_normal ?_)
    refine walkL_cond rfl (fun hb2 => ?_) (fun hb2 => ?_)
    · have hb := hb2
      have hlt : i < g.scen.length := by simpa using hb
      have hw : IntKind.i64.wrap ((i : Int) + 1) = ((i + 1 : Nat) : Int) := by rw [wr_small (by omega)]; simp
      obtain ⟨l, hx⟩ : ∃ l, g.scen[i]? = some l := ⟨_, List.getElem?_eq_getElem hlt⟩
      have hll := hg.len l (List.mem_of_getElem? hx)
      have g1 := scenRows_at hx
      have h88 := f88 g l (by omega)
      have h89 := f89 g burn (leastW g.p l) (by rw [leastW_len]; omega) (by rw [leastW_len, hg.sun]; omega) (by rw [leastW_len, hg.needs]; omega) (by rw [leastW_len]; omega)
      rw [Grid.cells] at h88 h89
      have hnx : (g.scen.take (i + 1)).foldl (hardStep g.p burn) ([], g.hours + 1) = hardStep g.p burn ((g.scen.take i).foldl (hardStep g.p burn) ([], g.hours + 1)) l := foldl_take_succ _ _ _ _ _ hx
      obtain ⟨a, ha⟩ : ∃ a, a = (g.scen.take i).foldl (hardStep g.p burn) ([], g.hours + 1) := ⟨_, rfl⟩
      rw [← ha] at hnx ⊢
      repeat (first | refine walkL_seq ?_ | refine walkL_skip ?_ | refine walkL_block ?_ | (refine walkL_region fun K hK => ?_; simp (maxSteps := 4000000) only [go_sem, g1]; (repeat (first | (refine ⟨_, .lent (hf := h88) (hd := rfl) (hr := rfl), ?_⟩; simp (maxSteps := 4000000) only [go_sem, g1]) | (refine ⟨_, .lent (hf := h89) (hd := rfl) (hr := rfl), ?_⟩; simp (maxSteps := 4000000) only [go_sem, g1]) | (refine ⟨_, .given (hf := h88) (hd := rfl) (ha := rfl), ?_⟩; simp (maxSteps := 4000000) only [go_sem, g1]) | (refine ⟨_, .given (hf := h89) (hd := rfl) (ha := rfl), ?_⟩; simp (maxSteps := 4000000) only [go_sem, g1]))); refine hK _ ?_; clear hK K) | refine walkL_nil ?_ | refine walkL_ret ?_ | refine walkL_exit ?_ | refine blockA_here ?_ | refine blockA_other rfl ?_ | refine blockA_ret ?_ | refine blockA_normal ?_ | refine thenA_ret ?_ | refine thenA_exit ?_ | refine thenA_normal ?_)
      refine walkL_cond rfl (fun hc => ?_) (fun hc => ?_)
      · have hc : (lastsW g.p burn (leastW g.p l) : Int) < a.2 := by simpa using hc
        rw [hardStep, if_pos hc] at hnx
        repeat (first | refine walkL_seq ?_ | refine walkL_skip ?_ | refine walkL_block ?_ | (refine walkL_region fun K hK => ?_; simp (maxSteps := 4000000) only [go_sem, hw]; refine hK _ ?_; clear hK K) | refine walkL_nil ?_ | refine walkL_ret ?_ | refine walkL_exit ?_ | refine blockA_here ?_ | refine blockA_other rfl ?_ | refine blockA_ret ?_ | refine blockA_normal ?_ | refine thenA_ret ?_ | refine thenA_exit ?_ | refine thenA_normal ?_)
        refine ⟨rfl, i + 1, ?_, hlt, by omega⟩
        rw [hnx]
        refine weak_of [] ?_ ?_ rfl rfl <;> simp [lessT, lessM, lessB, AV.less]
      · have hc : ¬ (lastsW g.p burn (leastW g.p l) : Int) < a.2 := by simpa using hc
        rw [hardStep, if_neg hc] at hnx
        repeat (first | refine walkL_seq ?_ | refine walkL_skip ?_ | refine walkL_block ?_ | (refine walkL_region fun K hK => ?_; simp (maxSteps := 4000000) only [go_sem, hw]; refine hK _ ?_; clear hK K) | refine walkL_nil ?_ | refine walkL_ret ?_ | refine walkL_exit ?_ | refine blockA_here ?_ | refine blockA_other rfl ?_ | refine blockA_ret ?_ | refine blockA_normal ?_ | refine thenA_ret ?_ | refine thenA_exit ?_ | refine thenA_normal ?_)
        refine ⟨rfl, i + 1, ?_, hlt, by omega⟩
        rw [hnx]
        refine weak_of [] ?_ ?_ rfl rfl <;> simp [lessT, lessM, lessB, AV.less]
    · have hb := hb2
      have he : i = g.scen.length := by (have : ¬ i < g.scen.length := by simpa using hb); omega
      subst he
      rw [List.take_length]
      repeat (first | refine walkL_seq ?_ | refine walkL_skip ?_ | refine walkL_block ?_ | (refine walkL_region fun K hK => ?_; simp (maxSteps := 4000000) only [go_sem]; refine hK _ ?_; clear hK K) | refine walkL_nil ?_ | refine walkL_ret ?_ | refine walkL_exit ?_ | refine blockA_here ?_ | refine blockA_other rfl ?_ | refine blockA_ret ?_ | refine blockA_normal ?_ | refine thenA_ret ?_ | refine thenA_exit ?_ | refine thenA_normal ?_)
      simp (maxSteps := 4000000) only [go_sem, hardF]

theorem f51m (g : Grid) (H : Nat) (burn : List Int) (hg : GridOk g H) (hb : burn.length = H) : FnG Try.prog 51 [.arr 3 1 (intRows burn)] [0] [.d (.ptr g.cells 0), .own 0] (.tup [.d (.sl (skyRows (hardF g burn).1)), .d (.i (hardF g burn).2)]) [.arr 3 1 (intRows burn)] := by
  have hpos := hg.pos
  have hsc := hg.scen.2
  have hw0 : IntKind.i64.wrap (g.hours + 1) = g.hours + 1 := wr_small (by rw [hg.hours]; omega)
  refine fnG_walk 39 Try.call51 Try.func51 rfl (by decide) [] [(0, 1)] (by simp only [List.length_cons, List.length_nil]; decide) (by kernel_rfl) fun J => ?_
  simp (maxSteps := 4000000) only [go_sem, St.startG, Try.ntmps51, Try.results51, List.map_cons, List.map_nil, List.range_succ,  Grid.cells]
  repeat (first | refine walkL_seq ?_ | refine walkL_skip ?_ | refine walkL_block ?_ | (refine walkL_region fun K hK => ?_; simp (maxSteps := 4000000) only [go_sem, hw0]; refine hK _ ?_; clear hK K) | refine walkL_nil ?_ | refine walkL_ret ?_ | refine walkL_exit ?_ | refine blockA_here ?_ | refine blockA_other rfl ?_ | refine blockA_ret ?_ | refine blockA_normal ?_ | refine thenA_ret ?_ | refine thenA_exit ?_ | refine thenA_normal ?_)
  refine walkL_loopS (fun (i : Nat) => [(20, .d (.i i)), (4, .d (.sl (skyRows ((g.scen.take i).foldl (hardStep g.p burn) ([], g.hours + 1)).1))), (5, .d (.i ((g.scen.take i).foldl (hardStep g.p burn) ([], g.hours + 1)).2))]) (fun _ => []) (fun i => i ≤ g.scen.length) (fun i => g.scen.length - i) 0 ?_ (Nat.zero_le _) ?_
  · simp (maxSteps := 4000000) only [go_sem, List.take_zero, List.foldl_nil]
    refine weak_of [] ?_ ?_ rfl rfl <;> simp [lessT, lessM, lessB, AV.less]
    all_goals first | done | rfl
  · intro i hi
    simp (maxSteps := 4000000) only [go_sem]
    repeat (first | refine walkL_seq ?_ | refine walkL_skip ?_ | refine walkL_block ?_ | (refine walkL_region fun K hK => ?_; simp (maxSteps := 4000000) only [go_sem]; refine hK _ ?_; clear hK K) | refine walkL_nil ?_ | refine walkL_ret ?_ | refine walkL_exit ?_ | refine blockA_here ?_ | refine blockA_other rfl ?_ | refine blockA_ret ?_ | refine blockA_normal ?_ | refine thenA_ret ?_ | refine thenA_exit ?_ | refine thenA_normal ?_)
    refine walkL_cond rfl (fun hb2 => ?_) (fun hb2 => ?_)
    · have hb := hb2
      have hlt : i < g.scen.length := by simpa using hb
      have hw : IntKind.i64.wrap ((i : Int) + 1) = ((i + 1 : Nat) : Int) := by rw [wr_small (by omega)]; simp
      obtain ⟨l, hx⟩ : ∃ l, g.scen[i]? = some l := ⟨_, List.getElem?_eq_getElem hlt⟩
      have hll := hg.len l (List.mem_of_getElem? hx)
      have g1 := scenRows_at hx
      have h88 := f88 g l (by omega)
      have h89 := f89 g burn (leastW g.p l) (by rw [leastW_len]; omega) (by rw [leastW_len, hg.sun]; omega) (by rw [leastW_len, hg.needs]; omega) (by rw [leastW_len]; omega)
      rw [Grid.cells] at h88 h89
      have hnx : (g.scen.take (i + 1)).foldl (hardStep g.p burn) ([], g.hours + 1) = hardStep g.p burn ((g.scen.take i).foldl (hardStep g.p burn) ([], g.hours + 1)) l := foldl_take_succ _ _ _ _ _ hx
      obtain ⟨a, ha⟩ : ∃ a, a = (g.scen.take i).foldl (hardStep g.p burn) ([], g.hours + 1) := ⟨_, rfl⟩
      rw [← ha] at hnx ⊢
      repeat (first | refine walkL_seq ?_ | refine walkL_skip ?_ | refine walkL_block ?_ | (refine walkL_region fun K hK => ?_; simp (maxSteps := 4000000) only [go_sem, g1]; (repeat (first | (refine ⟨_, .lent (hf := h88) (hd := rfl) (hr := rfl), ?_⟩; simp (maxSteps := 4000000) only [go_sem, g1]) | (refine ⟨_, .lent (hf := h89) (hd := rfl) (hr := rfl), ?_⟩; simp (maxSteps := 4000000) only [go_sem, g1]) | (refine ⟨_, .given (hf := h88) (hd := rfl) (ha := rfl), ?_⟩; simp (maxSteps := 4000000) only [go_sem, g1]) | (refine ⟨_, .given (hf := h89) (hd := rfl) (ha := rfl), ?_⟩; simp (maxSteps := 4000000) only [go_sem, g1]))); refine hK _ ?_; clear hK K) | refine walkL_nil ?_ | refine walkL_ret ?_ | refine walkL_exit ?_ | refine blockA_here ?_ | refine blockA_other rfl ?_ | refine blockA_ret ?_ | refine blockA_normal ?_ | refine thenA_ret ?_ | refine thenA_exit ?_ | refine thenA_normal ?_)
      refine walkL_cond rfl (fun hc => ?_) (fun hc => ?_)
      · have hc : (lastsW g.p burn (leastW g.p l) : Int) < a.2 := by simpa using hc
        rw [hardStep, if_pos hc] at hnx
        repeat (first | refine walkL_seq ?_ | refine walkL_skip ?_ | refine walkL_block ?_ | (refine walkL_region fun K hK => ?_; simp (maxSteps := 4000000) only [go_sem, hw]; refine hK _ ?_; clear hK K) | refine walkL_nil ?_ | refine walkL_ret ?_ | refine walkL_exit ?_ | refine blockA_here ?_ | refine blockA_other rfl ?_ | refine blockA_ret ?_ | refine blockA_normal ?_ | refine thenA_ret ?_ | refine thenA_exit ?_ | refine thenA_normal ?_)
        refine ⟨rfl, i + 1, ?_, hlt, by omega⟩
        rw [hnx]
        refine weak_of [] ?_ ?_ rfl rfl <;> simp [lessT, lessM, lessB, AV.less]
      · have hc : ¬ (lastsW g.p burn (leastW g.p l) : Int) < a.2 := by simpa using hc
        rw [hardStep, if_neg hc] at hnx
        repeat (first | refine walkL_seq ?_ | refine walkL_skip ?_ | refine walkL_block ?_ | (refine walkL_region fun K hK => ?_; simp (maxSteps := 4000000) only [go_sem, hw]; refine hK _ ?_; clear hK K) | refine walkL_nil ?_ | refine walkL_ret ?_ | refine walkL_exit ?_ | refine blockA_here ?_ | refine blockA_other rfl ?_ | refine blockA_ret ?_ | refine blockA_normal ?_ | refine thenA_ret ?_ | refine thenA_exit ?_ | refine thenA_normal ?_)
        refine ⟨rfl, i + 1, ?_, hlt, by omega⟩
        rw [hnx]
        refine weak_of [] ?_ ?_ rfl rfl <;> simp [lessT, lessM, lessB, AV.less]
    · have hb := hb2
      have he : i = g.scen.length := by (have : ¬ i < g.scen.length := by simpa using hb); omega
      subst he
      rw [List.take_length]
      repeat (first | refine walkL_seq ?_ | refine walkL_skip ?_ | refine walkL_block ?_ | (refine walkL_region fun K hK => ?_; simp (maxSteps := 4000000) only [go_sem]; refine hK _ ?_; clear hK K) | refine walkL_nil ?_ | refine walkL_ret ?_ | refine walkL_exit ?_ | refine blockA_here ?_ | refine blockA_other rfl ?_ | refine blockA_ret ?_ | refine blockA_normal ?_ | refine thenA_ret ?_ | refine thenA_exit ?_ | refine thenA_normal ?_)
      simp (maxSteps := 4000000) only [go_sem, hardF, retG]


end Go.Ab
namespace Go.Ab
open Go.RowKit Go.Proofs
set_option maxHeartbeats 8000000
set_option maxRecDepth 20000
attribute [local irreducible] WalkL Walk

theorem intRows_set (l : List Int) (k : Nat) (x : Int) : (intRows l).set k [.i x] = intRows (l.set k x) := by simp [intRows, List.map_set]

theorem hardF_range {g : Grid} {H : Nat} (hg : GridOk g H) (burn : List Int) : 0 ≤ (hardF g burn).2 ∧ (hardF g burn).2 ≤ H ∧ ∃ l ∈ g.scen, (hardF g burn).1 = leastW g.p l ∧ (hardF g burn).2 = lastsW g.p burn (leastW g.p l) := by
  have key : ∀ (l : List (List Hour)) (a : List Sky × Int), (∀ x ∈ l, x ∈ g.scen) → (l ≠ [] ∨ (0 ≤ a.2 ∧ a.2 ≤ H ∧ ∃ x ∈ g.scen, a.1 = leastW g.p x ∧ a.2 = lastsW g.p burn (leastW g.p x))) → (a.2 = (H : Int) + 1 ∨ (0 ≤ a.2 ∧ a.2 ≤ H ∧ ∃ x ∈ g.scen, a.1 = leastW g.p x ∧ a.2 = lastsW g.p burn (leastW g.p x))) →
      0 ≤ (l.foldl (hardStep g.p burn) a).2 ∧ (l.foldl (hardStep g.p burn) a).2 ≤ H ∧ ∃ x ∈ g.scen, (l.foldl (hardStep g.p burn) a).1 = leastW g.p x ∧ (l.foldl (hardStep g.p burn) a).2 = lastsW g.p burn (leastW g.p x) := by
    intro l
    induction l with
    | nil =>
      intro a _ h _
      rcases h with h | h
      · exact absurd rfl h
      · exact h
    | cons x xs ih =>
      intro a hm _ h2
      have hx := hm x (by simp)
      have hl : lastsW g.p burn (leastW g.p x) ≤ H := by
        have := lastsW_le g.p burn (leastW g.p x)
        rw [leastW_len, hg.len x hx] at this
        exact this
      rw [List.foldl_cons]
      have good : 0 ≤ (hardStep g.p burn a x).2 ∧ (hardStep g.p burn a x).2 ≤ H ∧ ∃ y ∈ g.scen, (hardStep g.p burn a x).1 = leastW g.p y ∧ (hardStep g.p burn a x).2 = lastsW g.p burn (leastW g.p y) := by
        unfold hardStep
        split
        · exact ⟨by dsimp only; omega, by dsimp only; omega, x, hx, rfl, rfl⟩
        · rcases h2 with h2 | h2
          · omega
          · exact h2
      exact ih _ (fun y hy => hm y (by simp [hy])) (.inr good) (.inr good)
  exact key g.scen _ (fun _ h => h) (.inl hg.scen.1) (.inl (by dsimp only; rw [hg.hours]))

/-! ### The plan -/

/-- The last hour up to k - 1 in which one more can be burnt. -/
def downF (r : Int) (burn : List Int) : Nat → Int
  | 0 => -1
  | k + 1 => if getI burn k = r then downF r burn k else k

theorem downF_range (r : Int) (burn : List Int) : ∀ k, -1 ≤ downF r burn k ∧ downF r burn k < k ∧ (0 ≤ downF r burn k → getI burn (downF r burn k) ≠ r)
  | 0 => by simp [downF]
  | k + 1 => by
    have := downF_range r burn k
    rw [downF]
    split
    · omega
    · rename_i h; exact ⟨by omega, by omega, fun _ => h⟩

def planF (g : Grid) : Nat → List Int → Int → Option (List Int × Int)
  | 0, _, _ => none
  | f + 1, burn, units =>
    if (hardF g burn).2 = g.hours then some (burn, units) else
    if downF g.p.rate burn ((hardF g burn).2.toNat + 1) < 0 ∨ units = g.p.units then none else
    planF g f (burn.set (downF g.p.rate burn ((hardF g burn).2.toNat + 1)).toNat (getI burn (downF g.p.rate burn ((hardF g burn).2.toNat + 1)) + 1)) (units + 1)

/-- The plan of a grid. -/
def planG (g : Grid) : Option (List Int × Int) := planF g (g.p.units.toNat + 1) (List.replicate g.hours.toNat 0) 0

def planV : Option (List Int × Int) → DV
  | some (b, u) => .tup [.sl (intRows b), .i u, .bool true]
  | none => .tup [.sl [], .i 0, .bool false]

theorem f45 (g : Grid) (H : Nat) (hg : GridOk g H) : Fn Try.prog 45 [.ptr g.cells 0] (planV (planG g)) := by
  have hpos := hg.pos
  have hrate := hg.rate
  have hunits := hg.units
  have hh := hg.hours
  have hmk : (H : Int) ≤ 1099511627776 := by omega
  have hrep : List.replicate H [DV.int .i64 0] = intRows (List.replicate H 0) := by simp [intRows]
  refine fn_walk 63 Try.call45 Try.func45 rfl (by decide) fun J => ?_
  simp (maxSteps := 4000000) only [go_sem, St.start, Try.ntmps45, Try.results45, Grid.cells]
  repeat (first | refine walkL_seq ?_ | refine walkL_skip ?_ | refine walkL_block ?_ | (refine walkL_region fun K hK => ?_; simp (maxSteps := 4000000) only [go_sem, hh, hmk, hrep]; refine hK _ ?_; clear hK K) | refine walkL_nil ?_ | refine walkL_ret ?_ | refine walkL_exit ?_ | refine blockA_here ?_ | refine blockA_other rfl ?_ | refine blockA_ret ?_ | refine blockA_normal ?_ | refine thenA_ret ?_ | refine thenA_exit ?_ | refine thenA_normal ?_)
  refine walkL_loopS (fun (a : List Int × Int) => [(6, .d (.i a.2))]) (fun a => [(13, some (.arr 3 1 (intRows a.1)))])
    (fun a => 0 ≤ a.2 ∧ a.2 ≤ g.p.units ∧ a.1.length = H ∧ (∀ x ∈ a.1, 0 ≤ x ∧ x ≤ g.p.rate) ∧ planG g = planF g ((g.p.units - a.2).toNat + 1) a.1 a.2) (fun a => (g.p.units - a.2).toNat) (List.replicate H 0, 0) ?_
    ⟨Int.le_refl _, hunits.1, by simp, by intro x hx; rw [List.eq_of_mem_replicate hx]; exact ⟨Int.le_refl _, hrate.1⟩, by dsimp only; rw [planG, hh, Int.sub_zero, intVal]⟩ ?_
  · simp (maxSteps := 4000000) only [go_sem]
    refine weak_of [] ?_ ?_ rfl rfl <;> simp [lessT, lessM, lessB, AV.less]
  · rintro ⟨burn, units⟩ ⟨hu0, hu1, hbl, hbr, hplan⟩
    dsimp only at hu0 hu1 hbl hbr hplan
    have h51 := f51m g H burn hg hbl
    obtain ⟨r1, r2, _⟩ := hardF_range hg burn
    obtain ⟨hd, hhd⟩ : ∃ hd, hd = hardF g burn := ⟨_, rfl⟩
    rw [← hhd] at h51 r1 r2
    rw [planF, ← hhd, hh] at hplan
    rw [Grid.cells, hh] at h51
    simp (maxSteps := 4000000) only [go_sem]
    repeat (first | refine walkL_seq ?_ | refine walkL_skip ?_ | refine walkL_block ?_ | (refine walkL_region fun K hK => ?_; simp (maxSteps := 4000000) only [go_sem, hh]; refine hK _ ?_; clear hK K) | refine walkL_nil ?_ | refine walkL_ret ?_ | refine walkL_exit ?_ | refine blockA_here ?_ | refine blockA_other rfl ?_ | refine blockA_ret ?_ | refine blockA_normal ?_ | refine thenA_ret ?_ | refine thenA_exit ?_ | refine thenA_normal ?_)
    refine walkL_region fun K hK => ?_
    simp (maxSteps := 4000000) only [go_sem]
    refine ⟨_, .inPlace (n := 13) (hf := h51) (hn := rfl) (hb := rfl) (hla := rfl) (ha := argG_all (by repeat (first | exact trivial | refine And.intro ?_ ?_ | exact argG_ren rfl | exact argG_deep rfl rfl))), ?_⟩
    simp (maxSteps := 4000000) only [go_sem]
    refine hK _ ?_
    clear hK K
    repeat (first | refine walkL_seq ?_ | refine walkL_skip ?_ | refine walkL_block ?_ | (refine walkL_region fun K hK => ?_; simp (maxSteps := 4000000) only [go_sem, hh]; refine hK _ ?_; clear hK K) | refine walkL_nil ?_ | refine walkL_ret ?_ | refine walkL_exit ?_ | refine blockA_here ?_ | refine blockA_other rfl ?_ | refine blockA_ret ?_ | refine blockA_normal ?_ | refine thenA_ret ?_ | refine thenA_exit ?_ | refine thenA_normal ?_)
    by_cases hfin : hd.2 = (H : Int)
    · rw [if_pos hfin] at hplan
      have hq : (hd.2 == (H : Int)) = true := by simpa using hfin
      rw [hplan, planV]
      simp (maxSteps := 4000000) only [go_sem, hq]
      repeat (first | refine walkL_true rfl ?_ | refine walkL_false rfl ?_ | refine walkL_seq ?_ | refine walkL_skip ?_ | refine walkL_block ?_ | (refine walkL_region fun K hK => ?_; simp (maxSteps := 4000000) only [go_sem]; refine hK _ ?_; clear hK K) | refine walkL_nil ?_ | refine walkL_ret ?_ | refine walkL_exit ?_ | refine blockA_here ?_ | refine blockA_other rfl ?_ | refine blockA_ret ?_ | refine blockA_normal ?_ | refine thenA_ret ?_ | refine thenA_exit ?_ | refine thenA_normal ?_)
      simp (maxSteps := 4000000) only [go_sem]
    · rw [if_neg hfin] at hplan
      have hq : (hd.2 == (H : Int)) = false := by simpa using hfin
      obtain ⟨n, hn⟩ : ∃ n : Nat, hd.2 = n := ⟨hd.2.toNat, by omega⟩
      have hnH : n < H := by omega
      rw [hn, intVal] at hplan
      obtain ⟨D, hD⟩ : ∃ D, D = downF g.p.rate burn (n + 1) := ⟨_, rfl⟩
      rw [← hD] at hplan
      simp (maxSteps := 4000000) only [go_sem, hq]
      refine walkL_false rfl ?_
      simp (maxSteps := 4000000) only [go_sem, hn]
      repeat (first | refine walkL_seq ?_ | refine walkL_skip ?_ | refine walkL_block ?_ | (refine walkL_region fun K hK => ?_; simp (maxSteps := 4000000) only [go_sem]; refine hK _ ?_; clear hK K) | refine walkL_nil ?_ | refine walkL_ret ?_ | refine walkL_exit ?_ | refine blockA_here ?_ | refine blockA_other rfl ?_ | refine blockA_ret ?_ | refine blockA_normal ?_ | refine thenA_ret ?_ | refine thenA_exit ?_ | refine thenA_normal ?_)
      refine walkL_loopS (fun (t : Int) => [(8, .d (.i t))]) (fun _ => []) (fun t => -1 ≤ t ∧ t < H ∧ D = downF g.p.rate burn (t + 1).toNat) (fun t => (t + 1).toNat) (n : Int) ?_
        ⟨by omega, by omega, by rw [hD]; congr 1⟩ ?_
      · simp (maxSteps := 4000000) only [go_sem]
        refine weak_of [] ?_ ?_ rfl rfl <;> simp [lessT, lessM, lessB, AV.less]
      · rintro t ⟨ht1, ht2, htd⟩
        simp (maxSteps := 4000000) only [go_sem]
        by_cases ht : t ≥ 0
        · obtain ⟨j, rfl⟩ : ∃ j : Nat, t = j := ⟨t.toNat, by omega⟩
          have hd1 : decide ((j : Int) ≥ 0) = true := by simp
          have hjl : j < burn.length := by omega
          have gj : (intRows burn)[j]? = some [.i (getI burn j)] := by have := intRows_get (l := burn) (i := (j : Int)) (by omega) (by simpa using hjl); simpa using this
          rw [show ((j : Int) + 1).toNat = j + 1 by omega, downF] at htd
          have hwj : IntKind.i64.wrap ((j : Int) - 1) = (j : Int) - 1 := wr_small (by omega)
          by_cases he : getI burn j = g.p.rate
          · rw [if_pos he] at htd
            have hd2 : (getI burn j == g.p.rate) = true := by simpa using he
            repeat (first | refine walkL_true rfl ?_ | refine walkL_false rfl ?_ | refine walkL_seq ?_ | refine walkL_skip ?_ | refine walkL_block ?_ | (refine walkL_region fun K hK => ?_; simp (maxSteps := 4000000) only [go_sem, hd1, gj, hjl, hd2, hwj]; refine hK _ ?_; clear hK K) | (refine walkL_drawn (by kernel_rfl) (by kernel_rfl) fun K hK => ?_; simp (maxSteps := 4000000) only [go_sem, hd1, gj, hjl, hd2, hwj]; refine ⟨by kernel_rfl, hK _ ?_⟩; clear hK K) | refine walkL_nil ?_ | refine walkL_ret ?_ | refine walkL_exit ?_ | refine blockA_here ?_ | refine blockA_other rfl ?_ | refine blockA_ret ?_ | refine blockA_normal ?_ | refine thenA_ret ?_ | refine thenA_exit ?_ | refine thenA_normal ?_)
            refine ⟨rfl, (j : Int) - 1, ?_, ⟨by omega, by omega, by rw [htd]; congr 1; omega⟩, by omega⟩
            refine weak_of [] ?_ ?_ rfl rfl <;> simp [lessT, lessM, lessB, AV.less]
          · rw [if_neg he] at htd
            have hd2 : (getI burn j == g.p.rate) = false := by simpa using he
            rw [htd] at hplan
            have hjn : ¬ (j : Int) < 0 := by omega
            have hd3 : decide ((j : Int) < 0) = false := by simp
            have hbj := hbr (getI burn j) (by
              have : burn[j]? = some (getI burn j) := by unfold getI; rw [List.getD, intVal, List.getElem?_eq_getElem hjl]; rfl
              exact List.mem_of_getElem? this)
            have hwb : IntKind.i64.wrap (getI burn j + 1) = getI burn j + 1 := wr_small (by omega)
            repeat (first | refine walkL_true rfl ?_ | refine walkL_false rfl ?_ | refine walkL_seq ?_ | refine walkL_skip ?_ | refine walkL_block ?_ | (refine walkL_region fun K hK => ?_; simp (maxSteps := 4000000) only [go_sem, hd1, gj, hjl, hd2, hwj]; refine hK _ ?_; clear hK K) | (refine walkL_drawn (by kernel_rfl) (by kernel_rfl) fun K hK => ?_; simp (maxSteps := 4000000) only [go_sem, hd1, gj, hjl, hd2, hwj]; refine ⟨by kernel_rfl, hK _ ?_⟩; clear hK K) | refine walkL_nil ?_ | refine walkL_ret ?_ | refine walkL_exit ?_ | refine blockA_here ?_ | refine blockA_other rfl ?_ | refine blockA_ret ?_ | refine blockA_normal ?_ | refine thenA_ret ?_ | refine thenA_exit ?_ | refine thenA_normal ?_)
            by_cases hu : units = g.p.units
            · rw [if_pos (.inr hu)] at hplan
              have hd4 : (units == g.p.units) = true := by simpa using hu
              rw [hplan, planV]
              repeat (first | refine walkL_true rfl ?_ | refine walkL_false rfl ?_ | refine walkL_seq ?_ | refine walkL_skip ?_ | refine walkL_block ?_ | (refine walkL_region fun K hK => ?_; simp (maxSteps := 4000000) only [go_sem, hd3, hd4]; refine hK _ ?_; clear hK K) | refine walkL_nil ?_ | refine walkL_ret ?_ | refine walkL_exit ?_ | refine blockA_here ?_ | refine blockA_other rfl ?_ | refine blockA_ret ?_ | refine blockA_normal ?_ | refine thenA_ret ?_ | refine thenA_exit ?_ | refine thenA_normal ?_)
              simp (maxSteps := 4000000) only [go_sem]
              try rfl
            · rw [if_neg (by intro h; rcases h with h | h; exact hjn h; exact hu h)] at hplan
              have hd4 : (units == g.p.units) = false := by simpa using hu
              have hwu : IntKind.i64.wrap (units + 1) = units + 1 := wr_small (by omega)
              repeat (first | refine walkL_true rfl ?_ | refine walkL_false rfl ?_ | refine walkL_seq ?_ | refine walkL_skip ?_ | refine walkL_block ?_ | (refine walkL_region fun K hK => ?_; simp (maxSteps := 4000000) only [go_sem, hd3, hd4, gj, hjl, hwb, hwu]; refine hK _ ?_; clear hK K) | refine walkL_nil ?_ | refine walkL_ret ?_ | refine walkL_exit ?_ | refine blockA_here ?_ | refine blockA_other rfl ?_ | refine blockA_ret ?_ | refine blockA_normal ?_ | refine thenA_ret ?_ | refine thenA_exit ?_ | refine thenA_normal ?_)
              refine ⟨rfl, (burn.set j (getI burn j + 1), units + 1), ?_, ⟨by dsimp only; omega, by dsimp only; omega, by dsimp only; simpa using hbl, ?_, ?_⟩, by dsimp only; omega⟩
              · dsimp only
                rw [← intRows_set]
                refine weak_of [] ?_ ?_ rfl rfl <;> simp [lessT, lessM, lessB, AV.less]
              · dsimp only
                intro x hx
                rcases List.mem_or_eq_of_mem_set hx with hx | hx
                · exact hbr x hx
                · omega
              · dsimp only
                rw [hplan, show (g.p.units - units).toNat = (g.p.units - (units + 1)).toNat + 1 by omega]
                simp
        · have hd1 : decide (t ≥ 0) = false := by simpa using ht
          have htt : t = -1 := by omega
          subst htt
          have hd3 : decide ((-1 : Int) < 0) = true := by decide
          rw [show ((-1 : Int) + 1).toNat = 0 by decide, downF] at htd
          rw [htd, if_pos (.inl (by decide))] at hplan
          rw [hplan, planV]
          repeat (first | refine walkL_true rfl ?_ | refine walkL_false rfl ?_ | refine walkL_seq ?_ | refine walkL_skip ?_ | refine walkL_block ?_ | (refine walkL_region fun K hK => ?_; simp (maxSteps := 4000000) only [go_sem, hd1]; refine hK _ ?_; clear hK K) | (refine walkL_drawn (by kernel_rfl) (by kernel_rfl) fun K hK => ?_; simp (maxSteps := 4000000) only [go_sem, hd1]; refine ⟨by kernel_rfl, hK _ ?_⟩; clear hK K) | refine walkL_nil ?_ | refine walkL_ret ?_ | refine walkL_exit ?_ | refine blockA_here ?_ | refine blockA_other rfl ?_ | refine blockA_ret ?_ | refine blockA_normal ?_ | refine thenA_ret ?_ | refine thenA_exit ?_ | refine thenA_normal ?_)
          repeat (first | refine walkL_true rfl ?_ | refine walkL_false rfl ?_ | refine walkL_seq ?_ | refine walkL_skip ?_ | refine walkL_block ?_ | (refine walkL_region fun K hK => ?_; simp (maxSteps := 4000000) only [go_sem, hd3]; refine hK _ ?_; clear hK K) | refine walkL_nil ?_ | refine walkL_ret ?_ | refine walkL_exit ?_ | refine blockA_here ?_ | refine blockA_other rfl ?_ | refine blockA_ret ?_ | refine blockA_normal ?_ | refine thenA_ret ?_ | refine thenA_exit ?_ | refine thenA_normal ?_)
          simp (maxSteps := 4000000) only [go_sem]
          try rfl

theorem grid_ok {p : Plant} (h : openE p [] = 0) : ∃ H : Nat, GridOk (gridOf p) H ∧ (H : Int) = hoursOf p := by
  unfold openE at h
  split at h
  · rename_i hlk
    obtain ⟨hg, hsi, hpn⟩ := look_zero hlk
    cases hb : plantBad p (hoursOf p) with
    | true => rw [hb] at h; cases h
    | false =>
      have hF := hg.scen
      have hH := hg.hours
      refine ⟨(hd0 p.scen).length, ?_, rfl⟩
      simp only [plantBad, Bool.or_eq_false_iff, Bool.not_eq_false', within_iff] at hb
      obtain ⟨b1, b2, _, _, _, _, _, _, _, b10, b11⟩ := hb
      simp only [powerB, Bool.and_eq_true, beq_iff_eq, hoursOf] at b1 b2
      have hpl := possFrom_len p.seen p.scen 0
      refine ⟨rfl, hH, by have := b1.1; simp only [gridOf]; omega, by have := b2.1; simp only [gridOf]; omega, ⟨?_, ?_⟩, fun l hl => ?_, by simpa [gridOf] using b10, by simpa [gridOf] using b11⟩
      · simp only [gridOf, scensOf]
        intro e
        exact hpn (List.map_eq_nil_iff.1 e)
      · simp only [gridOf, scens_len, possL]
        omega
      · simp only [gridOf, scensOf] at hl
        obtain ⟨⟨k, l'⟩, hm, rfl⟩ := List.mem_map.1 hl
        obtain ⟨i, hi⟩ := List.getElem?_of_mem hm
        obtain ⟨l, _, hl2, hl3, _⟩ := poss_get p.scen 0 i k l' hi
        dsimp only
        rw [hl3, seenHours_len, hg.len l (List.mem_of_getElem? hl2)]
  · rename_i hlk
    exact absurd h hlk

/-- What Plan returns. -/
def planP (p : Plant) : List Int × Int × Int :=
  if openE p [] = 0 then (match planG (gridOf p) with
    | some (b, u) => (b, u, 0)
    | none => ([], 0, 3)) else ([], 0, openE p [])

theorem f17 (p : Plant) (hs : PlantSmall p) : Fn Try.prog 17 [.agg p.cells] (.tup [.sl (intRows (planP p).1), .i (planP p).2.1, .i (planP p).2.2]) := by
  have h44 := f44 p [] hs (by simp) (by simp)
  have e0 : listRows [] = [] := rfl
  rw [e0, Plant.cells] at h44
  refine fn_walk 25 Try.call17 Try.func17 rfl (by decide) fun J => ?_
  simp (maxSteps := 4000000) only [go_sem, St.start, Try.ntmps17, Try.results17, Plant.cells]
  by_cases hz : openE p [] = 0
  · obtain ⟨H, hg, _⟩ := grid_ok hz
    have h45 := f45 (gridOf p) H hg
    rw [if_pos hz, hz] at h44
    rw [planP, if_pos hz]
    obtain ⟨g, hgg⟩ : ∃ g, g = gridOf p := ⟨_, rfl⟩
    rw [← hgg] at h44 h45 ⊢
    rw [Grid.cells] at h44 h45
    cases hp : planG g with
    | none =>
      rw [hp, planV] at h45
      repeat (first | refine walkL_true rfl ?_ | refine walkL_false rfl ?_ | refine walkL_seq ?_ | refine walkL_skip ?_ | refine walkL_block ?_ | (refine walkL_region fun K hK => ?_; simp (maxSteps := 4000000) only [go_sem]; (repeat (first | (refine ⟨_, .lent (hf := h44) (hd := rfl) (hr := rfl), ?_⟩; simp (maxSteps := 4000000) only [go_sem]) | (refine ⟨_, .lent (hf := h45) (hd := rfl) (hr := rfl), ?_⟩; simp (maxSteps := 4000000) only [go_sem]) | (refine ⟨_, .given (hf := h44) (hd := rfl) (ha := rfl), ?_⟩; simp (maxSteps := 4000000) only [go_sem]) | (refine ⟨_, .given (hf := h45) (hd := rfl) (ha := rfl), ?_⟩; simp (maxSteps := 4000000) only [go_sem]))); refine hK _ ?_; clear hK K) | refine walkL_nil ?_ | refine walkL_ret ?_ | refine walkL_exit ?_ | refine blockA_here ?_ | refine blockA_other rfl ?_ | refine blockA_ret ?_ | refine blockA_normal ?_ | refine thenA_ret ?_ | refine thenA_exit ?_ | refine thenA_normal ?_)
      simp (maxSteps := 4000000) only [go_sem]
      try rfl
    | some bu =>
      obtain ⟨b, u⟩ := bu
      rw [hp, planV] at h45
      repeat (first | refine walkL_true rfl ?_ | refine walkL_false rfl ?_ | refine walkL_seq ?_ | refine walkL_skip ?_ | refine walkL_block ?_ | (refine walkL_region fun K hK => ?_; simp (maxSteps := 4000000) only [go_sem]; (repeat (first | (refine ⟨_, .lent (hf := h44) (hd := rfl) (hr := rfl), ?_⟩; simp (maxSteps := 4000000) only [go_sem]) | (refine ⟨_, .lent (hf := h45) (hd := rfl) (hr := rfl), ?_⟩; simp (maxSteps := 4000000) only [go_sem]) | (refine ⟨_, .given (hf := h44) (hd := rfl) (ha := rfl), ?_⟩; simp (maxSteps := 4000000) only [go_sem]) | (refine ⟨_, .given (hf := h45) (hd := rfl) (ha := rfl), ?_⟩; simp (maxSteps := 4000000) only [go_sem]))); refine hK _ ?_; clear hK K) | refine walkL_nil ?_ | refine walkL_ret ?_ | refine walkL_exit ?_ | refine blockA_here ?_ | refine blockA_other rfl ?_ | refine blockA_ret ?_ | refine blockA_normal ?_ | refine thenA_ret ?_ | refine thenA_exit ?_ | refine thenA_normal ?_)
      simp (maxSteps := 4000000) only [go_sem]
  · rw [if_neg hz] at h44
    rw [planP, if_neg hz]
    have hq : (openE p [] != 0) = true := by simpa using hz
    repeat (first | refine walkL_true rfl ?_ | refine walkL_false rfl ?_ | refine walkL_seq ?_ | refine walkL_skip ?_ | refine walkL_block ?_ | (refine walkL_region fun K hK => ?_; simp (maxSteps := 4000000) only [go_sem, hq]; (repeat (first | (refine ⟨_, .lent (hf := h44) (hd := rfl) (hr := rfl), ?_⟩; simp (maxSteps := 4000000) only [go_sem, hq]) | (refine ⟨_, .given (hf := h44) (hd := rfl) (ha := rfl), ?_⟩; simp (maxSteps := 4000000) only [go_sem, hq]))); refine hK _ ?_; clear hK K) | refine walkL_nil ?_ | refine walkL_ret ?_ | refine walkL_exit ?_ | refine blockA_here ?_ | refine blockA_other rfl ?_ | refine blockA_ret ?_ | refine blockA_normal ?_ | refine thenA_ret ?_ | refine thenA_exit ?_ | refine thenA_normal ?_)
    simp (maxSteps := 4000000) only [go_sem]
    try rfl
end Go.Ab
namespace Go.Ab
open Go.RowKit Go.Proofs
set_option maxHeartbeats 8000000
set_option maxRecDepth 20000
attribute [local irreducible] WalkL Walk

/-! ### A plant that was changed -/

def gridAV (g : Grid) (ch nd : AV) : List AV := [.d (.sl (scenRows g.p.scen)), .d (.sl (sightRows g.p.seen)), .d (.sl (intRows g.p.sun)), .d (.i g.p.gain), .d (.i g.p.start), .d (.i g.p.stop), ch, .d (.i g.p.capacity), .d (.i g.p.reserve), .d (.i g.p.gas), .d (.i g.p.rate), .d (.i g.p.units), nd, .d (.sl (scenRows g.scen)), .d (.i g.hours)]
def moreNeeds (g : Grid) (m : Int) : Grid := { g with p := { g.p with needs := g.p.needs.map fun n => wr (n + m) } }
def withCharge (g : Grid) (c : Int) : Grid := { g with p := { g.p with charge := c } }

theorem moreNeeds_ok {g : Grid} {H : Nat} (h : GridOk g H) (m : Int) : GridOk (moreNeeds g m) H := ⟨h.hours, h.pos, h.sun, by simpa [moreNeeds] using h.needs, h.scen, h.len, h.rate, h.units⟩
theorem withCharge_ok {g : Grid} {H : Nat} (h : GridOk g H) (c : Int) : GridOk (withCharge g c) H := ⟨h.hours, h.pos, h.sun, h.needs, h.scen, h.len, h.rate, h.units⟩

theorem f55 (g : Grid) (m : Int) (hn : g.p.needs.length < 2 ^ 30) : FnG Try.prog 55 [.box (gridAV g (.d (.i g.p.charge)) (.d (.sl (intRows g.p.needs))))] [0] [.box 0 0, .d (.ptr [.ptr g.cells 0] 0), .d (.ptr [.i m] 0)] (.tup [])
    [.box (gridAV g (.d (.i g.p.charge)) (.own 1)), .arr 3 1 (intRows (moreNeeds g m).p.needs)] := by
  refine fnG_walk 35 Try.call55 Try.func55 rfl (by decide) [30] [(0, 0)] (by simp only [List.length_cons, List.length_nil]; decide) (by kernel_rfl) fun J => ?_
  simp (maxSteps := 4000000) only [go_sem, St.startG, Try.ntmps55, Try.results55, List.map_cons, List.map_nil, List.range_succ,  Grid.cells, gridAV]
  repeat (first | refine walkL_seq ?_ | refine walkL_skip ?_ | refine walkL_block ?_ | (refine walkL_region fun K hK => ?_; simp (maxSteps := 4000000) only [go_sem]; refine hK _ ?_; clear hK K) | refine walkL_nil ?_ | refine walkL_ret ?_ | refine walkL_exit ?_ | refine blockA_here ?_ | refine blockA_other rfl ?_ | refine blockA_ret ?_ | refine blockA_normal ?_ | refine thenA_ret ?_ | refine thenA_exit ?_ | refine thenA_normal ?_)
  refine walkL_loopS (fun (i : Nat) => [(16, .d (.i i))]) (fun i => [(35, some (.box [.d (.sl (scenRows g.p.scen)), .d (.sl (sightRows g.p.seen)), .d (.sl (intRows g.p.sun)), .d (.i g.p.gain), .d (.i g.p.start), .d (.i g.p.stop), .d (.i g.p.charge), .d (.i g.p.capacity), .d (.i g.p.reserve), .d (.i g.p.gas), .d (.i g.p.rate), .d (.i g.p.units), .own 30, .d (.sl (scenRows g.scen)), .d (.i g.hours)])), (30, some (.arr 3 1 (intRows ((g.p.needs.take i).map fun n => wr (n + m)))))]) (fun i => i ≤ g.p.needs.length) (fun i => g.p.needs.length - i) 0 ?_ (Nat.zero_le _) ?_
  · simp (maxSteps := 4000000) only [go_sem]
    refine weak_of [30] ?_ ?_ rfl rfl <;> simp [lessT, lessM, lessB, AV.less]
    all_goals first | done | rfl
  · intro i hi
    simp (maxSteps := 4000000) only [go_sem]
    repeat (first | refine walkL_seq ?_ | refine walkL_skip ?_ | refine walkL_block ?_ | (refine walkL_region fun K hK => ?_; simp (maxSteps := 4000000) only [go_sem]; refine hK _ ?_; clear hK K) | refine walkL_nil ?_ | refine walkL_ret ?_ | refine walkL_exit ?_ | refine blockA_here ?_ | refine blockA_other rfl ?_ | refine blockA_ret ?_ | refine blockA_normal ?_ | refine thenA_ret ?_ | refine thenA_exit ?_ | refine thenA_normal ?_)
    refine walkL_cond rfl (fun hb => ?_) (fun hb => ?_)
    · have hlt : i < g.p.needs.length := by simpa using hb
      have hw : IntKind.i64.wrap ((i : Int) + 1) = ((i + 1 : Nat) : Int) := by rw [wr_small (by omega)]; simp
      obtain ⟨x, hx⟩ : ∃ x, g.p.needs[i]? = some x := ⟨_, List.getElem?_eq_getElem hlt⟩
      have g1 := intRows_at hx
      have htk : (g.p.needs.take (i + 1)).map (fun n => wr (n + m)) = (g.p.needs.take i).map (fun n => wr (n + m)) ++ [wr (x + m)] := by rw [List.take_add_one, hx]; simp
      have hl : (g.p.needs.take i).length ≤ 549755813887 := by simp; omega
      repeat (first | refine walkL_seq ?_ | refine walkL_skip ?_ | refine walkL_block ?_ | (refine walkL_region fun K hK => ?_; simp (maxSteps := 4000000) only [go_sem, g1]; refine hK _ ?_; clear hK K) | refine walkL_nil ?_ | refine walkL_ret ?_ | refine walkL_exit ?_ | refine blockA_here ?_ | refine blockA_other rfl ?_ | refine blockA_ret ?_ | refine blockA_normal ?_ | refine thenA_ret ?_ | refine thenA_exit ?_ | refine thenA_normal ?_)
      refine walkL_drawnA (by kernel_rfl) (by kernel_rfl) fun K hK => ?_
      simp (maxSteps := 4000000) only [go_sem, hl]
      refine ⟨by kernel_rfl, hK _ ?_⟩
      clear hK K
      repeat (first | refine walkL_seq ?_ | refine walkL_skip ?_ | refine walkL_block ?_ | (refine walkL_region fun K hK => ?_; simp (maxSteps := 4000000) only [go_sem, hw]; refine hK _ ?_; clear hK K) | refine walkL_nil ?_ | refine walkL_ret ?_ | refine walkL_exit ?_ | refine blockA_here ?_ | refine blockA_other rfl ?_ | refine blockA_ret ?_ | refine blockA_normal ?_ | refine thenA_ret ?_ | refine thenA_exit ?_ | refine thenA_normal ?_)
      refine ⟨rfl, i + 1, ?_, hlt, by omega⟩
      rw [htk, ← intRows_append]
      refine weak_of [] ?_ ?_ rfl rfl <;> simp [lessT, lessM, lessB, AV.less]
      all_goals first | done | rfl
    · have he : i = g.p.needs.length := by (have : ¬ i < g.p.needs.length := by simpa using hb); omega
      subst he
      rw [List.take_length]
      repeat (first | refine walkL_seq ?_ | refine walkL_skip ?_ | refine walkL_block ?_ | (refine walkL_region fun K hK => ?_; simp (maxSteps := 4000000) only [go_sem]; refine hK _ ?_; clear hK K) | refine walkL_nil ?_ | refine walkL_ret ?_ | refine walkL_exit ?_ | refine blockA_here ?_ | refine blockA_other rfl ?_ | refine blockA_ret ?_ | refine blockA_normal ?_ | refine thenA_ret ?_ | refine thenA_exit ?_ | refine thenA_normal ?_)
      simp (maxSteps := 4000000) only [go_sem, retG, moreNeeds]

theorem f57 (g : Grid) (c : Int) : FnG Try.prog 57 [.box (gridAV g (.d (.i g.p.charge)) (.d (.sl (intRows g.p.needs))))] [0] [.box 0 0, .d (.ptr [.i c] 0)] (.tup [])
    [.box (gridAV g (.d (.i c)) (.d (.sl (intRows g.p.needs))))] := by
  refine fnG_walk 9 Try.call57 Try.func57 rfl (by decide) [] [(0, 0)] (by simp only [List.length_cons, List.length_nil]; decide) (by kernel_rfl) fun J => ?_
  simp (maxSteps := 4000000) only [go_sem, St.startG, Try.ntmps57, Try.results57, List.map_cons, List.map_nil, List.range_succ,  Grid.cells, gridAV]
  repeat (first | refine walkL_seq ?_ | refine walkL_skip ?_ | refine walkL_block ?_ | (refine walkL_region fun K hK => ?_; simp (maxSteps := 4000000) only [go_sem]; refine hK _ ?_; clear hK K) | refine walkL_nil ?_ | refine walkL_ret ?_ | refine walkL_exit ?_ | refine blockA_here ?_ | refine blockA_other rfl ?_ | refine blockA_ret ?_ | refine blockA_normal ?_ | refine thenA_ret ?_ | refine thenA_exit ?_ | refine thenA_normal ?_)
  simp (maxSteps := 4000000) only [go_sem, retG]

theorem f54a (g : Grid) (H : Nat) (m : Int) (hg : GridOk g H) : Fn Try.prog 54 [.ptr g.cells 0, .fn 55 [.ptr [.ptr g.cells 0] 0, .ptr [.i m] 0]] (.bool (planG (moreNeeds g m)).isSome) := by
  have hpos := hg.pos
  have h55 := f55 g m (by rw [hg.needs]; omega)
  have h45 := f45 (moreNeeds g m) H (moreNeeds_ok hg m)
  have ec : (moreNeeds g m).cells = [.sl (scenRows g.p.scen), .sl (sightRows g.p.seen), .sl (intRows g.p.sun), .i g.p.gain, .i g.p.start, .i g.p.stop, .i g.p.charge, .i g.p.capacity, .i g.p.reserve, .i g.p.gas, .i g.p.rate, .i g.p.units, .sl (intRows (moreNeeds g m).p.needs), .sl (scenRows g.scen), .i g.hours] := rfl
  rw [ec] at h45
  obtain ⟨nd, hnd⟩ : ∃ nd, nd = (moreNeeds g m).p.needs := ⟨_, rfl⟩
  rw [← hnd] at h45 h55
  rw [Grid.cells] at h55
  simp only [gridAV] at h55
  refine fn_walk 20 Try.call54 Try.func54 rfl (by decide) fun J => ?_
  simp (maxSteps := 4000000) only [go_sem, St.start, Try.ntmps54, Try.results54, Grid.cells]
  repeat (first | refine walkL_seq ?_ | refine walkL_skip ?_ | refine walkL_block ?_ | (refine walkL_region fun K hK => ?_; simp (maxSteps := 4000000) only [go_sem]; refine hK _ ?_; clear hK K) | refine walkL_nil ?_ | refine walkL_ret ?_ | refine walkL_exit ?_ | refine blockA_here ?_ | refine blockA_other rfl ?_ | refine blockA_ret ?_ | refine blockA_normal ?_ | refine thenA_ret ?_ | refine thenA_exit ?_ | refine thenA_normal ?_)
  refine walkL_region fun K hK => ?_
  simp (maxSteps := 4000000) only [go_sem]
  refine ⟨_, .inPlaceN (n := 5) (k := 14) (hf := h55) (hn := rfl) (hb := rfl) (hk := rfl) (hnk := by decide) (hla := rfl) (ha := argG_all (by repeat (first | exact trivial | refine And.intro ?_ ?_ | exact argG_ren rfl | exact argG_deep rfl rfl))), ?_⟩
  simp (maxSteps := 4000000) only [go_sem]
  refine hK _ ?_
  clear hK K
  cases hp : planG (moreNeeds g m) with
  | none =>
    rw [hp, planV] at h45
    repeat (first | refine walkL_seq ?_ | refine walkL_skip ?_ | refine walkL_block ?_ | (refine walkL_region fun K hK => ?_; simp (maxSteps := 4000000) only [go_sem]; refine hK _ ?_; clear hK K) | refine walkL_nil ?_ | refine walkL_ret ?_ | refine walkL_exit ?_ | refine blockA_here ?_ | refine blockA_other rfl ?_ | refine blockA_ret ?_ | refine blockA_normal ?_ | refine thenA_ret ?_ | refine thenA_exit ?_ | refine thenA_normal ?_)
    refine walkL_region fun K hK => ?_
    simp (maxSteps := 4000000) only [go_sem]
    refine ⟨_, .lentF (ys := [.undef, .undef, .d (.bool false)]) (hf := h45) (hd := rfl) (hk := by simp [keepsOk, DV.flat]), ?_⟩
    simp (maxSteps := 4000000) only [go_sem]
    refine hK _ ?_
    clear hK K
    repeat (first | refine walkL_seq ?_ | refine walkL_skip ?_ | refine walkL_block ?_ | (refine walkL_region fun K hK => ?_; simp (maxSteps := 4000000) only [go_sem]; refine hK _ ?_; clear hK K) | refine walkL_nil ?_ | refine walkL_ret ?_ | refine walkL_exit ?_ | refine blockA_here ?_ | refine blockA_other rfl ?_ | refine blockA_ret ?_ | refine blockA_normal ?_ | refine thenA_ret ?_ | refine thenA_exit ?_ | refine thenA_normal ?_)
    simp (maxSteps := 4000000) only [go_sem, Option.isSome_none]
  | some bu =>
    obtain ⟨b, u⟩ := bu
    rw [hp, planV] at h45
    repeat (first | refine walkL_seq ?_ | refine walkL_skip ?_ | refine walkL_block ?_ | (refine walkL_region fun K hK => ?_; simp (maxSteps := 4000000) only [go_sem]; refine hK _ ?_; clear hK K) | refine walkL_nil ?_ | refine walkL_ret ?_ | refine walkL_exit ?_ | refine blockA_here ?_ | refine blockA_other rfl ?_ | refine blockA_ret ?_ | refine blockA_normal ?_ | refine thenA_ret ?_ | refine thenA_exit ?_ | refine thenA_normal ?_)
    refine walkL_region fun K hK => ?_
    simp (maxSteps := 4000000) only [go_sem]
    refine ⟨_, .lentF (ys := [.undef, .undef, .d (.bool true)]) (hf := h45) (hd := rfl) (hk := by simp [keepsOk, DV.flat]), ?_⟩
    simp (maxSteps := 4000000) only [go_sem]
    refine hK _ ?_
    clear hK K
    repeat (first | refine walkL_seq ?_ | refine walkL_skip ?_ | refine walkL_block ?_ | (refine walkL_region fun K hK => ?_; simp (maxSteps := 4000000) only [go_sem]; refine hK _ ?_; clear hK K) | refine walkL_nil ?_ | refine walkL_ret ?_ | refine walkL_exit ?_ | refine blockA_here ?_ | refine blockA_other rfl ?_ | refine blockA_ret ?_ | refine blockA_normal ?_ | refine thenA_ret ?_ | refine thenA_exit ?_ | refine thenA_normal ?_)
    simp (maxSteps := 4000000) only [go_sem, Option.isSome_some]

theorem f54b (g : Grid) (H : Nat) (c : Int) (hg : GridOk g H) : Fn Try.prog 54 [.ptr g.cells 0, .fn 57 [.ptr [.i c] 0]] (.bool (planG (withCharge g c)).isSome) := by
  have hpos := hg.pos
  have h57 := f57 g c
  have h45 := f45 (withCharge g c) H (withCharge_ok hg c)
  have ec : (withCharge g c).cells = [.sl (scenRows g.p.scen), .sl (sightRows g.p.seen), .sl (intRows g.p.sun), .i g.p.gain, .i g.p.start, .i g.p.stop, .i c, .i g.p.capacity, .i g.p.reserve, .i g.p.gas, .i g.p.rate, .i g.p.units, .sl (intRows g.p.needs), .sl (scenRows g.scen), .i g.hours] := rfl
  rw [ec] at h45
  simp only [gridAV] at h57
  refine fn_walk 20 Try.call54 Try.func54 rfl (by decide) fun J => ?_
  simp (maxSteps := 4000000) only [go_sem, St.start, Try.ntmps54, Try.results54, Grid.cells]
  repeat (first | refine walkL_seq ?_ | refine walkL_skip ?_ | refine walkL_block ?_ | (refine walkL_region fun K hK => ?_; simp (maxSteps := 4000000) only [go_sem]; refine hK _ ?_; clear hK K) | refine walkL_nil ?_ | refine walkL_ret ?_ | refine walkL_exit ?_ | refine blockA_here ?_ | refine blockA_other rfl ?_ | refine blockA_ret ?_ | refine blockA_normal ?_ | refine thenA_ret ?_ | refine thenA_exit ?_ | refine thenA_normal ?_)
  refine walkL_region fun K hK => ?_
  simp (maxSteps := 4000000) only [go_sem]
  refine ⟨_, .inPlace (n := 5) (hf := h57) (hn := rfl) (hb := rfl) (hla := rfl) (ha := argG_all (by repeat (first | exact trivial | refine And.intro ?_ ?_ | exact argG_ren rfl | exact argG_deep rfl rfl))), ?_⟩
  simp (maxSteps := 4000000) only [go_sem]
  refine hK _ ?_
  clear hK K
  cases hp : planG (withCharge g c) with
  | none =>
    rw [hp, planV] at h45
    repeat (first | refine walkL_seq ?_ | refine walkL_skip ?_ | refine walkL_block ?_ | (refine walkL_region fun K hK => ?_; simp (maxSteps := 4000000) only [go_sem]; refine hK _ ?_; clear hK K) | refine walkL_nil ?_ | refine walkL_ret ?_ | refine walkL_exit ?_ | refine blockA_here ?_ | refine blockA_other rfl ?_ | refine blockA_ret ?_ | refine blockA_normal ?_ | refine thenA_ret ?_ | refine thenA_exit ?_ | refine thenA_normal ?_)
    refine walkL_region fun K hK => ?_
    simp (maxSteps := 4000000) only [go_sem]
    refine ⟨_, .lentF (ys := [.undef, .undef, .d (.bool false)]) (hf := h45) (hd := rfl) (hk := by simp [keepsOk, DV.flat]), ?_⟩
    simp (maxSteps := 4000000) only [go_sem]
    refine hK _ ?_
    clear hK K
    repeat (first | refine walkL_seq ?_ | refine walkL_skip ?_ | refine walkL_block ?_ | (refine walkL_region fun K hK => ?_; simp (maxSteps := 4000000) only [go_sem]; refine hK _ ?_; clear hK K) | refine walkL_nil ?_ | refine walkL_ret ?_ | refine walkL_exit ?_ | refine blockA_here ?_ | refine blockA_other rfl ?_ | refine blockA_ret ?_ | refine blockA_normal ?_ | refine thenA_ret ?_ | refine thenA_exit ?_ | refine thenA_normal ?_)
    simp (maxSteps := 4000000) only [go_sem, Option.isSome_none]
  | some bu =>
    obtain ⟨b, u⟩ := bu
    rw [hp, planV] at h45
    repeat (first | refine walkL_seq ?_ | refine walkL_skip ?_ | refine walkL_block ?_ | (refine walkL_region fun K hK => ?_; simp (maxSteps := 4000000) only [go_sem]; refine hK _ ?_; clear hK K) | refine walkL_nil ?_ | refine walkL_ret ?_ | refine walkL_exit ?_ | refine blockA_here ?_ | refine blockA_other rfl ?_ | refine blockA_ret ?_ | refine blockA_normal ?_ | refine thenA_ret ?_ | refine thenA_exit ?_ | refine thenA_normal ?_)
    refine walkL_region fun K hK => ?_
    simp (maxSteps := 4000000) only [go_sem]
    refine ⟨_, .lentF (ys := [.undef, .undef, .d (.bool true)]) (hf := h45) (hd := rfl) (hk := by simp [keepsOk, DV.flat]), ?_⟩
    simp (maxSteps := 4000000) only [go_sem]
    refine hK _ ?_
    clear hK K
    repeat (first | refine walkL_seq ?_ | refine walkL_skip ?_ | refine walkL_block ?_ | (refine walkL_region fun K hK => ?_; simp (maxSteps := 4000000) only [go_sem]; refine hK _ ?_; clear hK K) | refine walkL_nil ?_ | refine walkL_ret ?_ | refine walkL_exit ?_ | refine blockA_here ?_ | refine blockA_other rfl ?_ | refine blockA_ret ?_ | refine blockA_normal ?_ | refine thenA_ret ?_ | refine thenA_exit ?_ | refine thenA_normal ?_)
    simp (maxSteps := 4000000) only [go_sem, Option.isSome_some]

theorem f53 (g : Grid) (H : Nat) (m : Int) (hg : GridOk g H) : Fn Try.prog 53 [.i m, .ptr [.ptr g.cells 0] 0] (.bool (!(planG (moreNeeds g m)).isSome)) := by
  have h54 := f54a g H m hg
  rw [Grid.cells] at h54
  refine fn_walk 8 Try.call53 Try.func53 rfl (by decide) fun J => ?_
  simp (maxSteps := 4000000) only [go_sem, St.start, Try.ntmps53, Try.results53, Grid.cells]
  repeat (first | refine walkL_seq ?_ | refine walkL_skip ?_ | refine walkL_block ?_ | (refine walkL_region fun K hK => ?_; simp (maxSteps := 4000000) only [go_sem]; (repeat (first | (refine ⟨_, .lent (hf := h54) (hd := rfl) (hr := rfl), ?_⟩; simp (maxSteps := 4000000) only [go_sem]) | (refine ⟨_, .given (hf := h54) (hd := rfl) (ha := rfl), ?_⟩; simp (maxSteps := 4000000) only [go_sem]))); refine hK _ ?_; clear hK K) | refine walkL_nil ?_ | refine walkL_ret ?_ | refine walkL_exit ?_ | refine blockA_here ?_ | refine blockA_other rfl ?_ | refine blockA_ret ?_ | refine blockA_normal ?_ | refine thenA_ret ?_ | refine thenA_exit ?_ | refine thenA_normal ?_)
  simp (maxSteps := 4000000) only [go_sem]

theorem f56 (g : Grid) (H : Nat) (c : Int) (hg : GridOk g H) : Fn Try.prog 56 [.i c, .ptr [.ptr g.cells 0] 0] (.bool (planG (withCharge g c)).isSome) := by
  have h54 := f54b g H c hg
  rw [Grid.cells] at h54
  refine fn_walk 7 Try.call56 Try.func56 rfl (by decide) fun J => ?_
  simp (maxSteps := 4000000) only [go_sem, St.start, Try.ntmps56, Try.results56, Grid.cells]
  repeat (first | refine walkL_seq ?_ | refine walkL_skip ?_ | refine walkL_block ?_ | (refine walkL_region fun K hK => ?_; simp (maxSteps := 4000000) only [go_sem]; (repeat (first | (refine ⟨_, .lent (hf := h54) (hd := rfl) (hr := rfl), ?_⟩; simp (maxSteps := 4000000) only [go_sem]) | (refine ⟨_, .given (hf := h54) (hd := rfl) (ha := rfl), ?_⟩; simp (maxSteps := 4000000) only [go_sem]))); refine hK _ ?_; clear hK K) | refine walkL_nil ?_ | refine walkL_ret ?_ | refine walkL_exit ?_ | refine blockA_here ?_ | refine blockA_other rfl ?_ | refine blockA_ret ?_ | refine blockA_normal ?_ | refine thenA_ret ?_ | refine thenA_exit ?_ | refine thenA_normal ?_)
  simp (maxSteps := 4000000) only [go_sem]

/-! ### The search -/

/-- As the library searches. -/
def searchI (q : Int → Bool) : Nat → Int → Int → Int
  | 0, i, _ => i
  | f + 1, i, j => if i < j then (if q ((i + j) / 2) then searchI q f i ((i + j) / 2) else searchI q f ((i + j) / 2 + 1) j) else i

theorem f52 (n : Int) (f : Nat) (caps : List DV) (q : Int → Bool) (hn : 0 ≤ n ∧ n < 2 ^ 40) (hq : ∀ i, 0 ≤ i → i < n → Fn Try.prog f (.i i :: caps) (.bool (q i))) : Fn Try.prog 52 [.i n, .fn f caps] (.i (searchI q (n.toNat + 1) 0 n)) := by
  obtain ⟨S, hS⟩ : ∃ S, S = searchI q (n.toNat + 1) 0 n := ⟨_, rfl⟩
  rw [← hS]
  refine fn_walk 26 Try.call52 Try.func52 rfl (by decide) fun J => ?_
  simp (maxSteps := 4000000) only [go_sem, St.start, Try.ntmps52, Try.results52]
  repeat (first | refine walkL_seq ?_ | refine walkL_skip ?_ | refine walkL_block ?_ | (refine walkL_region fun K hK => ?_; simp (maxSteps := 4000000) only [go_sem]; refine hK _ ?_; clear hK K) | refine walkL_nil ?_ | refine walkL_ret ?_ | refine walkL_exit ?_ | refine blockA_here ?_ | refine blockA_other rfl ?_ | refine blockA_ret ?_ | refine blockA_normal ?_ | refine thenA_ret ?_ | refine thenA_exit ?_ | refine thenA_normal ?_)
  refine walkL_loopS (fun (a : Nat × Int × Int) => [(5, .d (.i a.2.1)), (6, .d (.i a.2.2))]) (fun _ => []) (fun a => 0 ≤ a.2.1 ∧ a.2.1 ≤ a.2.2 ∧ a.2.2 ≤ n ∧ a.2.2 - a.2.1 < a.1 ∧ S = searchI q a.1 a.2.1 a.2.2) (fun a => a.1) (n.toNat + 1, 0, n) ?_ ⟨Int.le_refl _, hn.1, Int.le_refl _, by dsimp only; omega, hS⟩ ?_
  · simp (maxSteps := 4000000) only [go_sem]
    refine weak_of [] ?_ ?_ rfl rfl <;> simp [lessT, lessM, lessB, AV.less]
  · rintro ⟨k, i, j⟩ ⟨h0, h1, h2, hk, hs⟩
    dsimp only at h0 h1 h2 hk hs
    obtain ⟨k, rfl⟩ : ∃ k', k = k' + 1 := ⟨k - 1, by omega⟩
    rw [searchI] at hs
    simp (maxSteps := 4000000) only [go_sem]
    repeat (first | refine walkL_seq ?_ | refine walkL_skip ?_ | refine walkL_block ?_ | (refine walkL_region fun K hK => ?_; simp (maxSteps := 4000000) only [go_sem]; refine hK _ ?_; clear hK K) | refine walkL_nil ?_ | refine walkL_ret ?_ | refine walkL_exit ?_ | refine blockA_here ?_ | refine blockA_other rfl ?_ | refine blockA_ret ?_ | refine blockA_normal ?_ | refine thenA_ret ?_ | refine thenA_exit ?_ | refine thenA_normal ?_)
    refine walkL_cond rfl (fun hb => ?_) (fun hb => ?_)
    · have hij : i < j := by simpa using hb
      have hw1 : IntKind.i64.wrap (i + j) = i + j := wr_small (by omega)
      have hmid : IntKind.i64.wrap (bShr .u64 (IntKind.u64.wrap (i + j)) 1) = (i + j) / 2 := by
        have e1 : IntKind.u64.wrap (i + j) = i + j := by
          rw [IntKind.wrap_u64]
          omega
        rw [e1]
        have e2 : bShr .u64 (i + j) 1 = (i + j) / 2 := by
          simp [bShr, IntKind.bits]
          rw [Int.fdiv_eq_ediv_of_nonneg _ (by omega)]
        rw [e2]
        exact wr_small (by omega)
      obtain ⟨h, hh⟩ : ∃ h, h = (i + j) / 2 := ⟨_, rfl⟩
      have hir : i ≤ h ∧ h < j := by omega
      have hqh := hq h (by omega) (by omega)
      rw [if_pos hij, ← hh] at hs
      rw [← hh] at hmid
      have hw2 : IntKind.i64.wrap (h + 1) = h + 1 := wr_small (by omega)
      repeat (first | refine walkL_seq ?_ | refine walkL_skip ?_ | refine walkL_block ?_ | (refine walkL_region fun K hK => ?_; simp (maxSteps := 4000000) only [go_sem, hw1, hmid]; refine hK _ ?_; clear hK K) | refine walkL_nil ?_ | refine walkL_ret ?_ | refine walkL_exit ?_ | refine blockA_here ?_ | refine blockA_other rfl ?_ | refine blockA_ret ?_ | refine blockA_normal ?_ | refine thenA_ret ?_ | refine thenA_exit ?_ | refine thenA_normal ?_)
      refine walkL_region fun K hK => ?_
      simp (maxSteps := 4000000) only [go_sem]
      refine ⟨_, .lent (hf := hqh) (hd := reify_caps _ _ _ _ rfl) (hr := rfl), ?_⟩
      simp (maxSteps := 4000000) only [go_sem]
      refine hK _ ?_
      clear hK K
      cases hqv : q h
      · rw [hqv, if_neg (by decide)] at hs
        repeat (first | refine walkL_true rfl ?_ | refine walkL_false rfl ?_ | refine walkL_seq ?_ | refine walkL_skip ?_ | refine walkL_block ?_ | (refine walkL_region fun K hK => ?_; simp (maxSteps := 4000000) only [go_sem, hw2]; refine hK _ ?_; clear hK K) | refine walkL_nil ?_ | refine walkL_ret ?_ | refine walkL_exit ?_ | refine blockA_here ?_ | refine blockA_other rfl ?_ | refine blockA_ret ?_ | refine blockA_normal ?_ | refine thenA_ret ?_ | refine thenA_exit ?_ | refine thenA_normal ?_)
        refine ⟨rfl, (k, h + 1, j), ?_, ⟨by dsimp only; omega, by dsimp only; omega, by dsimp only; omega, by dsimp only; omega, hs⟩, by dsimp only; omega⟩
        refine weak_of [] ?_ ?_ rfl rfl <;> simp [lessT, lessM, lessB, AV.less]
      · rw [hqv, if_pos rfl] at hs
        repeat (first | refine walkL_true rfl ?_ | refine walkL_false rfl ?_ | refine walkL_seq ?_ | refine walkL_skip ?_ | refine walkL_block ?_ | (refine walkL_region fun K hK => ?_; simp (maxSteps := 4000000) only [go_sem]; refine hK _ ?_; clear hK K) | refine walkL_nil ?_ | refine walkL_ret ?_ | refine walkL_exit ?_ | refine blockA_here ?_ | refine blockA_other rfl ?_ | refine blockA_ret ?_ | refine blockA_normal ?_ | refine thenA_ret ?_ | refine thenA_exit ?_ | refine thenA_normal ?_)
        refine ⟨rfl, (k, i, h), ?_, ⟨by dsimp only; omega, by dsimp only; omega, by dsimp only; omega, by dsimp only; omega, hs⟩, by dsimp only; omega⟩
        refine weak_of [] ?_ ?_ rfl rfl <;> simp [lessT, lessM, lessB, AV.less]
    · have hij : ¬ i < j := by simpa using hb
      rw [if_neg hij] at hs
      repeat (first | refine walkL_seq ?_ | refine walkL_skip ?_ | refine walkL_block ?_ | (refine walkL_region fun K hK => ?_; simp (maxSteps := 4000000) only [go_sem]; refine hK _ ?_; clear hK K) | refine walkL_nil ?_ | refine walkL_ret ?_ | refine walkL_exit ?_ | refine blockA_here ?_ | refine blockA_other rfl ?_ | refine blockA_ret ?_ | refine blockA_normal ?_ | refine thenA_ret ?_ | refine thenA_exit ?_ | refine thenA_normal ?_)
      simp (maxSteps := 4000000) only [go_sem, hs]

/-! ### Spare and Least -/

def spareQ (g : Grid) (m : Int) : Bool := !(planG (moreNeeds g m)).isSome
def spareP (p : Plant) : Int × Int :=
  if openE p [] = 0 then (if searchI (spareQ (gridOf p)) 10002 0 10001 - 1 < 0 then (0, 3) else (searchI (spareQ (gridOf p)) 10002 0 10001 - 1, 0)) else (0, openE p [])

theorem searchI_range (q : Int → Bool) : ∀ (f : Nat) (i j : Int), i ≤ j → i ≤ searchI q f i j ∧ searchI q f i j ≤ j
  | 0, i, j, h => by simp [searchI]; exact h
  | f + 1, i, j, h => by
    rw [searchI]
    split
    · split
      · have := searchI_range q f i ((i + j) / 2) (by omega); omega
      · have := searchI_range q f ((i + j) / 2 + 1) j (by omega); omega
    · omega

theorem f24 (p : Plant) (hs : PlantSmall p) : Fn Try.prog 24 [.agg p.cells] (.tup [.i (spareP p).1, .i (spareP p).2]) := by
  have h44 := f44 p [] hs (by simp) (by simp)
  have e0 : listRows [] = [] := rfl
  rw [e0, Plant.cells] at h44
  refine fn_walk 21 Try.call24 Try.func24 rfl (by decide) fun J => ?_
  simp (maxSteps := 4000000) only [go_sem, St.start, Try.ntmps24, Try.results24, Plant.cells]
  by_cases hz : openE p [] = 0
  · obtain ⟨H, hg, _⟩ := grid_ok hz
    rw [if_pos hz, hz] at h44
    rw [spareP, if_pos hz]
    obtain ⟨g, hgg⟩ : ∃ g, g = gridOf p := ⟨_, rfl⟩
    rw [← hgg] at h44 hg ⊢
    have h52 := f52 10001 53 [.ptr [.ptr g.cells 0] 0] (spareQ g) (by decide) (fun i _ _ => f53 g H i hg)
    obtain ⟨t, ht⟩ : ∃ t, t = searchI (spareQ g) 10002 0 10001 := ⟨_, rfl⟩
    have htr := searchI_range (spareQ g) 10002 0 10001 (by decide)
    change Fn _ _ _ (.i (searchI (spareQ g) 10002 0 10001)) at h52
    rw [← ht] at h52 htr ⊢
    have hw : IntKind.i64.wrap (t - 1) = t - 1 := wr_small (by omega)
    rw [Grid.cells] at h44 h52
    cases hd : decide (t - 1 < 0)
    · have hd' := of_decide_eq_false hd
      rw [if_neg hd']
      repeat (first | refine walkL_true rfl ?_ | refine walkL_false rfl ?_ | refine walkL_seq ?_ | refine walkL_skip ?_ | refine walkL_block ?_ | (refine walkL_region fun K hK => ?_; simp (maxSteps := 4000000) only [go_sem, hw, hd]; (repeat (first | (refine ⟨_, .lent (hf := h44) (hd := rfl) (hr := rfl), ?_⟩; simp (maxSteps := 4000000) only [go_sem, hw, hd]) | (refine ⟨_, .lent (hf := h52) (hd := rfl) (hr := rfl), ?_⟩; simp (maxSteps := 4000000) only [go_sem, hw, hd]) | (refine ⟨_, .given (hf := h44) (hd := rfl) (ha := rfl), ?_⟩; simp (maxSteps := 4000000) only [go_sem, hw, hd]) | (refine ⟨_, .given (hf := h52) (hd := rfl) (ha := rfl), ?_⟩; simp (maxSteps := 4000000) only [go_sem, hw, hd]))); refine hK _ ?_; clear hK K) | refine walkL_nil ?_ | refine walkL_ret ?_ | refine walkL_exit ?_ | refine blockA_here ?_ | refine blockA_other rfl ?_ | refine blockA_ret ?_ | refine blockA_normal ?_ | refine thenA_ret ?_ | refine thenA_exit ?_ | refine thenA_normal ?_)
      simp (maxSteps := 4000000) only [go_sem]
    · have hd' := of_decide_eq_true hd
      rw [if_pos hd']
      repeat (first | refine walkL_true rfl ?_ | refine walkL_false rfl ?_ | refine walkL_seq ?_ | refine walkL_skip ?_ | refine walkL_block ?_ | (refine walkL_region fun K hK => ?_; simp (maxSteps := 4000000) only [go_sem, hw, hd]; (repeat (first | (refine ⟨_, .lent (hf := h44) (hd := rfl) (hr := rfl), ?_⟩; simp (maxSteps := 4000000) only [go_sem, hw, hd]) | (refine ⟨_, .lent (hf := h52) (hd := rfl) (hr := rfl), ?_⟩; simp (maxSteps := 4000000) only [go_sem, hw, hd]) | (refine ⟨_, .given (hf := h44) (hd := rfl) (ha := rfl), ?_⟩; simp (maxSteps := 4000000) only [go_sem, hw, hd]) | (refine ⟨_, .given (hf := h52) (hd := rfl) (ha := rfl), ?_⟩; simp (maxSteps := 4000000) only [go_sem, hw, hd]))); refine hK _ ?_; clear hK K) | refine walkL_nil ?_ | refine walkL_ret ?_ | refine walkL_exit ?_ | refine blockA_here ?_ | refine blockA_other rfl ?_ | refine blockA_ret ?_ | refine blockA_normal ?_ | refine thenA_ret ?_ | refine thenA_exit ?_ | refine thenA_normal ?_)
      simp (maxSteps := 4000000) only [go_sem]
  · rw [if_neg hz] at h44
    rw [spareP, if_neg hz]
    have hq : (openE p [] != 0) = true := by simpa using hz
    repeat (first | refine walkL_true rfl ?_ | refine walkL_false rfl ?_ | refine walkL_seq ?_ | refine walkL_skip ?_ | refine walkL_block ?_ | (refine walkL_region fun K hK => ?_; simp (maxSteps := 4000000) only [go_sem, hq]; (repeat (first | (refine ⟨_, .lent (hf := h44) (hd := rfl) (hr := rfl), ?_⟩; simp (maxSteps := 4000000) only [go_sem, hq]) | (refine ⟨_, .given (hf := h44) (hd := rfl) (ha := rfl), ?_⟩; simp (maxSteps := 4000000) only [go_sem, hq]))); refine hK _ ?_; clear hK K) | refine walkL_nil ?_ | refine walkL_ret ?_ | refine walkL_exit ?_ | refine blockA_here ?_ | refine blockA_other rfl ?_ | refine blockA_ret ?_ | refine blockA_normal ?_ | refine thenA_ret ?_ | refine thenA_exit ?_ | refine thenA_normal ?_)
    simp (maxSteps := 4000000) only [go_sem]

def leastQ (g : Grid) (c : Int) : Bool := (planG (withCharge g c)).isSome
def leastP (p : Plant) : Int × Int :=
  if openE p [] = 0 then (if searchI (leastQ (gridOf p)) (p.capacity + 1).toNat.succ 0 (p.capacity + 1) > p.capacity then (0, 3) else (searchI (leastQ (gridOf p)) (p.capacity + 1).toNat.succ 0 (p.capacity + 1), 0)) else (0, openE p [])

theorem open_plant {p : Plant} (h : openE p [] = 0) : plantBad p (hoursOf p) = false := by
  unfold openE at h
  split at h
  · cases hb : plantBad p (hoursOf p) with
    | true => rw [hb] at h; cases h
    | false => rfl
  · rename_i hlk; exact absurd h hlk

theorem f25 (p : Plant) (hs : PlantSmall p) : Fn Try.prog 25 [.agg p.cells] (.tup [.i (leastP p).1, .i (leastP p).2]) := by
  have h44 := f44 p [] hs (by simp) (by simp)
  have e0 : listRows [] = [] := rfl
  rw [e0, Plant.cells] at h44
  refine fn_walk 27 Try.call25 Try.func25 rfl (by decide) fun J => ?_
  simp (maxSteps := 4000000) only [go_sem, St.start, Try.ntmps25, Try.results25, Plant.cells]
  by_cases hz : openE p [] = 0
  · obtain ⟨H, hg, _⟩ := grid_ok hz
    have hb := open_plant hz
    simp only [plantBad, Bool.or_eq_false_iff, Bool.not_eq_false', within_iff] at hb
    obtain ⟨_, _, _, _, _, b6, _⟩ := hb
    rw [if_pos hz, hz] at h44
    rw [leastP, if_pos hz]
    obtain ⟨g, hgg⟩ : ∃ g, g = gridOf p := ⟨_, rfl⟩
    rw [← hgg] at h44 hg ⊢
    have h52 := f52 (p.capacity + 1) 56 [.ptr [.ptr g.cells 0] 0] (leastQ g) (by omega) (fun i _ _ => f56 g H i hg)
    obtain ⟨t, ht⟩ : ∃ t, t = searchI (leastQ g) (p.capacity + 1).toNat.succ 0 (p.capacity + 1) := ⟨_, rfl⟩
    change Fn _ _ _ (.i (searchI (leastQ g) (p.capacity + 1).toNat.succ 0 (p.capacity + 1))) at h52
    rw [← ht] at h52 ⊢
    have hw : IntKind.i64.wrap (p.capacity + 1) = p.capacity + 1 := wr_small (by omega)
    rw [Grid.cells] at h44 h52
    cases hd : decide (t > p.capacity)
    · have hd' := of_decide_eq_false hd
      rw [if_neg hd']
      repeat (first | refine walkL_true rfl ?_ | refine walkL_false rfl ?_ | refine walkL_seq ?_ | refine walkL_skip ?_ | refine walkL_block ?_ | (refine walkL_region fun K hK => ?_; simp (maxSteps := 4000000) only [go_sem, hw, hd]; (repeat (first | (refine ⟨_, .lent (hf := h44) (hd := rfl) (hr := rfl), ?_⟩; simp (maxSteps := 4000000) only [go_sem, hw, hd]) | (refine ⟨_, .lent (hf := h52) (hd := rfl) (hr := rfl), ?_⟩; simp (maxSteps := 4000000) only [go_sem, hw, hd]) | (refine ⟨_, .given (hf := h44) (hd := rfl) (ha := rfl), ?_⟩; simp (maxSteps := 4000000) only [go_sem, hw, hd]) | (refine ⟨_, .given (hf := h52) (hd := rfl) (ha := rfl), ?_⟩; simp (maxSteps := 4000000) only [go_sem, hw, hd]))); refine hK _ ?_; clear hK K) | refine walkL_nil ?_ | refine walkL_ret ?_ | refine walkL_exit ?_ | refine blockA_here ?_ | refine blockA_other rfl ?_ | refine blockA_ret ?_ | refine blockA_normal ?_ | refine thenA_ret ?_ | refine thenA_exit ?_ | refine thenA_normal ?_)
      simp (maxSteps := 4000000) only [go_sem]
    · have hd' := of_decide_eq_true hd
      rw [if_pos hd']
      repeat (first | refine walkL_true rfl ?_ | refine walkL_false rfl ?_ | refine walkL_seq ?_ | refine walkL_skip ?_ | refine walkL_block ?_ | (refine walkL_region fun K hK => ?_; simp (maxSteps := 4000000) only [go_sem, hw, hd]; (repeat (first | (refine ⟨_, .lent (hf := h44) (hd := rfl) (hr := rfl), ?_⟩; simp (maxSteps := 4000000) only [go_sem, hw, hd]) | (refine ⟨_, .lent (hf := h52) (hd := rfl) (hr := rfl), ?_⟩; simp (maxSteps := 4000000) only [go_sem, hw, hd]) | (refine ⟨_, .given (hf := h44) (hd := rfl) (ha := rfl), ?_⟩; simp (maxSteps := 4000000) only [go_sem, hw, hd]) | (refine ⟨_, .given (hf := h52) (hd := rfl) (ha := rfl), ?_⟩; simp (maxSteps := 4000000) only [go_sem, hw, hd]))); refine hK _ ?_; clear hK K) | refine walkL_nil ?_ | refine walkL_ret ?_ | refine walkL_exit ?_ | refine blockA_here ?_ | refine blockA_other rfl ?_ | refine blockA_ret ?_ | refine blockA_normal ?_ | refine thenA_ret ?_ | refine thenA_exit ?_ | refine thenA_normal ?_)
      simp (maxSteps := 4000000) only [go_sem]
  · rw [if_neg hz] at h44
    rw [leastP, if_neg hz]
    have hq : (openE p [] != 0) = true := by simpa using hz
    repeat (first | refine walkL_true rfl ?_ | refine walkL_false rfl ?_ | refine walkL_seq ?_ | refine walkL_skip ?_ | refine walkL_block ?_ | (refine walkL_region fun K hK => ?_; simp (maxSteps := 4000000) only [go_sem, hq]; (repeat (first | (refine ⟨_, .lent (hf := h44) (hd := rfl) (hr := rfl), ?_⟩; simp (maxSteps := 4000000) only [go_sem, hq]) | (refine ⟨_, .given (hf := h44) (hd := rfl) (ha := rfl), ?_⟩; simp (maxSteps := 4000000) only [go_sem, hq]))); refine hK _ ?_; clear hK K) | refine walkL_nil ?_ | refine walkL_ret ?_ | refine walkL_exit ?_ | refine blockA_here ?_ | refine blockA_other rfl ?_ | refine blockA_ret ?_ | refine blockA_normal ?_ | refine thenA_ret ?_ | refine thenA_exit ?_ | refine thenA_normal ?_)
    simp (maxSteps := 4000000) only [go_sem]
end Go.Ab
namespace Go.Ab
open Go.RowKit Go.Proofs
set_option maxHeartbeats 8000000
set_option maxRecDepth 20000
attribute [local irreducible] WalkL Walk

/-! ### The document's functions of layer 5 -/

theorem f97 (n lo hi : Int) : Fn Try.prog 97 [.i n, .i lo, .i hi] (.bool (withinB n lo hi)) := by
  refine fn_walk 15 Try.call97 Try.func97 rfl (by decide) fun J => ?_
  simp (maxSteps := 4000000) only [go_sem, St.start, Try.ntmps97, Try.results97]
  by_cases h : lo ≤ n
  · repeat (first | refine walkL_seq ?_ | refine walkL_skip ?_ | refine walkL_block ?_ | (refine walkL_region fun K hK => ?_; simp (maxSteps := 4000000) only [go_sem, h, ge_iff_le]; refine hK _ ?_; clear hK K) | refine walkL_nil ?_ | refine walkL_ret ?_ | refine walkL_exit ?_ | refine blockA_here ?_ | refine blockA_other rfl ?_ | refine blockA_ret ?_ | refine blockA_normal ?_ | refine thenA_ret ?_ | refine thenA_exit ?_ | refine thenA_normal ?_)
    simp (maxSteps := 4000000) only [go_sem, withinB, h]
  · repeat (first | refine walkL_seq ?_ | refine walkL_skip ?_ | refine walkL_block ?_ | (refine walkL_region fun K hK => ?_; simp (maxSteps := 4000000) only [go_sem, h, ge_iff_le]; refine hK _ ?_; clear hK K) | refine walkL_nil ?_ | refine walkL_ret ?_ | refine walkL_exit ?_ | refine blockA_here ?_ | refine blockA_other rfl ?_ | refine blockA_ret ?_ | refine blockA_normal ?_ | refine thenA_ret ?_ | refine thenA_exit ?_ | refine thenA_normal ?_)
    simp (maxSteps := 4000000) only [go_sem, withinB, h]

theorem f103 (s : Span) (lo hi : Int) : Fn Try.prog 103 [.agg s.row, .i lo, .i hi] (.bool (orderedB s lo hi)) := by
  refine fn_walk 24 Try.call103 Try.func103 rfl (by decide) fun J => ?_
  simp (maxSteps := 4000000) only [go_sem, St.start, Try.ntmps103, Try.results103, Span.row]
  by_cases h : lo ≤ s.lo <;> by_cases h2 : s.lo ≤ s.hi
  all_goals
    repeat (first | refine walkL_seq ?_ | refine walkL_skip ?_ | refine walkL_block ?_ | (refine walkL_region fun K hK => ?_; simp (maxSteps := 4000000) only [go_sem, h, h2, ge_iff_le]; refine hK _ ?_; clear hK K) | refine walkL_nil ?_ | refine walkL_ret ?_ | refine walkL_exit ?_ | refine blockA_here ?_ | refine blockA_other rfl ?_ | refine blockA_ret ?_ | refine blockA_normal ?_ | refine thenA_ret ?_ | refine thenA_exit ?_ | refine thenA_normal ?_)
    simp (maxSteps := 4000000) only [go_sem, orderedB, h, h2]

theorem f104 (n : Int) (s : Span) : Fn Try.prog 104 [.i n, .agg s.row] (.bool (withinB n s.lo s.hi)) := by
  have h97 := f97 n s.lo s.hi
  refine fn_walk 11 Try.call104 Try.func104 rfl (by decide) fun J => ?_
  simp (maxSteps := 4000000) only [go_sem, St.start, Try.ntmps104, Try.results104, Span.row]
  repeat (first | refine walkL_seq ?_ | refine walkL_skip ?_ | refine walkL_block ?_ | (refine walkL_region fun K hK => ?_; simp (maxSteps := 4000000) only [go_sem]; (repeat (first | (refine ⟨_, .lent (hf := h97) (hd := rfl) (hr := rfl), ?_⟩; simp (maxSteps := 4000000) only [go_sem]) | (refine ⟨_, .given (hf := h97) (hd := rfl) (ha := rfl), ?_⟩; simp (maxSteps := 4000000) only [go_sem]))); refine hK _ ?_; clear hK K) | refine walkL_nil ?_ | refine walkL_ret ?_ | refine walkL_exit ?_ | refine blockA_here ?_ | refine blockA_other rfl ?_ | refine blockA_ret ?_ | refine blockA_normal ?_ | refine thenA_ret ?_ | refine thenA_exit ?_ | refine thenA_normal ?_)
  simp (maxSteps := 4000000) only [go_sem]

theorem f71 (F : List (List Hour)) (h0 : List Hour) (h : F[0]? = some h0) : Fn Try.prog 71 [.agg [.sl (scenRows F)]] (.i h0.length) := by
  have g0 := scenRows_at h
  refine fn_walk 9 Try.call71 Try.func71 rfl (by decide) fun J => ?_
  simp (maxSteps := 4000000) only [go_sem, St.start, Try.ntmps71, Try.results71]
  repeat (first | refine walkL_seq ?_ | refine walkL_skip ?_ | refine walkL_block ?_ | (refine walkL_region fun K hK => ?_; simp (maxSteps := 4000000) only [go_sem, g0]; refine hK _ ?_; clear hK K) | refine walkL_nil ?_ | refine walkL_ret ?_ | refine walkL_exit ?_ | refine blockA_here ?_ | refine blockA_other rfl ?_ | refine blockA_ret ?_ | refine blockA_normal ?_ | refine thenA_ret ?_ | refine thenA_exit ?_ | refine thenA_normal ?_)
  simp (maxSteps := 4000000) only [go_sem]

theorem hd_mem {F : List (List Hour)} (h : 0 < F.length) : hd0 F ∈ F := List.mem_of_getElem? (headD_get h)

theorem f86 (F : List (List Hour)) (hs : ForeSmall F) : Fn Try.prog 86 [.agg [.sl (scenRows F)]] (.i (foreF F)) := by
  have h1 := hs.scen
  have h97 := f97 F.length 1 6
  cases q1 : withinB (F.length : Int) 1 6
  · have e : foreF F = 50 := by simp [foreF, badF, q1]
    rw [e]
    rw [q1] at h97
    refine fn_walk 66 Try.call86 Try.func86 rfl (by decide) fun J => ?_
    simp (maxSteps := 4000000) only [go_sem, St.start, Try.ntmps86, Try.results86]
    repeat (first | refine walkL_true rfl ?_ | refine walkL_false rfl ?_ | refine walkL_seq ?_ | refine walkL_skip ?_ | refine walkL_block ?_ | (refine walkL_region fun K hK => ?_; simp (maxSteps := 4000000) only [go_sem]; (repeat (first | (refine ⟨_, .lent (hf := h97) (hd := rfl) (hr := rfl), ?_⟩; simp (maxSteps := 4000000) only [go_sem]) | (refine ⟨_, .given (hf := h97) (hd := rfl) (ha := rfl), ?_⟩; simp (maxSteps := 4000000) only [go_sem]))); refine hK _ ?_; clear hK K) | refine walkL_nil ?_ | refine walkL_ret ?_ | refine walkL_exit ?_ | refine blockA_here ?_ | refine blockA_other rfl ?_ | refine blockA_ret ?_ | refine blockA_normal ?_ | refine thenA_ret ?_ | refine thenA_exit ?_ | refine thenA_normal ?_)
    simp (maxSteps := 4000000) only [go_sem]
  · have hl := within_iff.1 q1
    rw [q1] at h97
    have h0 := headD_get (F := F) (by omega)
    obtain ⟨H0, hH0⟩ : ∃ H0, H0 = hd0 F := ⟨_, rfl⟩
    rw [← hH0] at h0
    have hm0 : H0 ∈ F := List.mem_of_getElem? h0
    have h71 := f71 F H0 h0
    have h97b := f97 H0.length 1 48
    have hsm := hs.hours H0 hm0
    have hbadx : ∀ x ∈ F, scenB H0 x = false → foreF F = 50 := fun x hx hf => by
      have : F.all (scenB H0) = false := by
        obtain ⟨i, hi⟩ := List.getElem?_of_mem hx
        exact all_of_get hi hf
      simp [foreF, badF, ← hH0, this]
    cases q2 : withinB (H0.length : Int) 1 48
    · have e : foreF F = 50 := hbadx H0 hm0 (by simp [scenB, q2])
      rw [e]
      rw [q2] at h97b
      refine fn_walk 66 Try.call86 Try.func86 rfl (by decide) fun J => ?_
      simp (maxSteps := 4000000) only [go_sem, St.start, Try.ntmps86, Try.results86]
      repeat (first | refine walkL_true rfl ?_ | refine walkL_false rfl ?_ | refine walkL_seq ?_ | refine walkL_skip ?_ | refine walkL_block ?_ | (refine walkL_region fun K hK => ?_; simp (maxSteps := 4000000) only [go_sem]; (repeat (first | (refine ⟨_, .lent (hf := h97) (hd := rfl) (hr := rfl), ?_⟩; simp (maxSteps := 4000000) only [go_sem]) | (refine ⟨_, .lent (hf := h71) (hd := rfl) (hr := rfl), ?_⟩; simp (maxSteps := 4000000) only [go_sem]) | (refine ⟨_, .lent (hf := h97b) (hd := rfl) (hr := rfl), ?_⟩; simp (maxSteps := 4000000) only [go_sem]) | (refine ⟨_, .given (hf := h97) (hd := rfl) (ha := rfl), ?_⟩; simp (maxSteps := 4000000) only [go_sem]) | (refine ⟨_, .given (hf := h71) (hd := rfl) (ha := rfl), ?_⟩; simp (maxSteps := 4000000) only [go_sem]) | (refine ⟨_, .given (hf := h97b) (hd := rfl) (ha := rfl), ?_⟩; simp (maxSteps := 4000000) only [go_sem]))); refine hK _ ?_; clear hK K) | refine walkL_nil ?_ | refine walkL_ret ?_ | refine walkL_exit ?_ | refine blockA_here ?_ | refine blockA_other rfl ?_ | refine blockA_ret ?_ | refine blockA_normal ?_ | refine thenA_ret ?_ | refine thenA_exit ?_ | refine thenA_normal ?_)
      simp (maxSteps := 4000000) only [go_sem]
    · rw [q2] at h97b
      refine fn_walk 66 Try.call86 Try.func86 rfl (by decide) fun J => ?_
      simp (maxSteps := 4000000) only [go_sem, St.start, Try.ntmps86, Try.results86]
      repeat (first | refine walkL_true rfl ?_ | refine walkL_false rfl ?_ | refine walkL_seq ?_ | refine walkL_skip ?_ | refine walkL_block ?_ | (refine walkL_region fun K hK => ?_; simp (maxSteps := 4000000) only [go_sem]; (repeat (first | (refine ⟨_, .lent (hf := h97) (hd := rfl) (hr := rfl), ?_⟩; simp (maxSteps := 4000000) only [go_sem]) | (refine ⟨_, .lent (hf := h71) (hd := rfl) (hr := rfl), ?_⟩; simp (maxSteps := 4000000) only [go_sem]) | (refine ⟨_, .lent (hf := h97b) (hd := rfl) (hr := rfl), ?_⟩; simp (maxSteps := 4000000) only [go_sem]) | (refine ⟨_, .given (hf := h97) (hd := rfl) (ha := rfl), ?_⟩; simp (maxSteps := 4000000) only [go_sem]) | (refine ⟨_, .given (hf := h71) (hd := rfl) (ha := rfl), ?_⟩; simp (maxSteps := 4000000) only [go_sem]) | (refine ⟨_, .given (hf := h97b) (hd := rfl) (ha := rfl), ?_⟩; simp (maxSteps := 4000000) only [go_sem]))); refine hK _ ?_; clear hK K) | refine walkL_nil ?_ | refine walkL_ret ?_ | refine walkL_exit ?_ | refine blockA_here ?_ | refine blockA_other rfl ?_ | refine blockA_ret ?_ | refine blockA_normal ?_ | refine thenA_ret ?_ | refine thenA_exit ?_ | refine thenA_normal ?_)
      refine walkL_loopS (fun (i : Nat) => [(3, .d (.i i))]) (fun _ => []) (fun i => i ≤ F.length ∧ (F.take i).all (scenB H0) = true) (fun i => F.length - i) 0 ?_ ⟨Nat.zero_le _, rfl⟩ ?_
      · simp (maxSteps := 4000000) only [go_sem]
        refine weak_of [] ?_ ?_ rfl rfl <;> simp [lessT, lessM, lessB, AV.less]
      · intro i ⟨hi, hall⟩
        simp (maxSteps := 4000000) only [go_sem]
        repeat (first | refine walkL_seq ?_ | refine walkL_skip ?_ | refine walkL_block ?_ | (refine walkL_region fun K hK => ?_; simp (maxSteps := 4000000) only [go_sem]; refine hK _ ?_; clear hK K) | refine walkL_nil ?_ | refine walkL_ret ?_ | refine walkL_exit ?_ | refine blockA_here ?_ | refine blockA_other rfl ?_ | refine blockA_ret ?_ | refine blockA_normal ?_ | refine thenA_ret ?_ | refine thenA_exit ?_ | refine thenA_normal ?_)
        refine walkL_cond rfl (fun hb => ?_) (fun hb => ?_)
        · have hlt : i < F.length := by simpa using hb
          have hw : IntKind.i64.wrap ((i : Int) + 1) = ((i + 1 : Nat) : Int) := by rw [wr_small (by omega)]; simp
          obtain ⟨l, hx⟩ : ∃ l, F[i]? = some l := ⟨_, List.getElem?_eq_getElem hlt⟩
          have hlm := List.mem_of_getElem? hx
          have hls := hs.hours l hlm
          have g1 := scenRows_at hx
          cases q3 : ((l.length : Int) != (H0.length : Int))
          · have hll : l.length = H0.length := by
              have : ¬ (l.length : Int) ≠ (H0.length : Int) := by simpa using q3
              omega
            have hw1 : withinB (l.length : Int) 1 48 = true := by rw [hll]; exact q2
            repeat (first | refine walkL_true rfl ?_ | refine walkL_false rfl ?_ | refine walkL_seq ?_ | refine walkL_skip ?_ | refine walkL_block ?_ | (refine walkL_region fun K hK => ?_; simp (maxSteps := 4000000) only [go_sem, g1, q3]; (repeat (first | (refine ⟨_, .lent (hf := h71) (hd := rfl) (hr := rfl), ?_⟩; simp (maxSteps := 4000000) only [go_sem, g1, q3]) | (refine ⟨_, .given (hf := h71) (hd := rfl) (ha := rfl), ?_⟩; simp (maxSteps := 4000000) only [go_sem, g1, q3]))); refine hK _ ?_; clear hK K) | refine walkL_nil ?_ | refine walkL_ret ?_ | refine walkL_exit ?_ | refine blockA_here ?_ | refine blockA_other rfl ?_ | refine blockA_ret ?_ | refine blockA_normal ?_ | refine thenA_ret ?_ | refine thenA_exit ?_ | refine thenA_normal ?_)
            refine walkL_loopS (fun (j : Nat) => [(5, .d (.i j))]) (fun _ => []) (fun j => j ≤ l.length ∧ (l.take j).all hourB = true) (fun j => l.length - j) 0 ?_ ⟨Nat.zero_le _, rfl⟩ ?_
            · simp (maxSteps := 4000000) only [go_sem]
              refine weak_of [] ?_ ?_ rfl rfl <;> simp [lessT, lessM, lessB, AV.less]
            · intro j ⟨hj, hallj⟩
              simp (maxSteps := 4000000) only [go_sem]
              repeat (first | refine walkL_seq ?_ | refine walkL_skip ?_ | refine walkL_block ?_ | (refine walkL_region fun K hK => ?_; simp (maxSteps := 4000000) only [go_sem]; refine hK _ ?_; clear hK K) | refine walkL_nil ?_ | refine walkL_ret ?_ | refine walkL_exit ?_ | refine blockA_here ?_ | refine blockA_other rfl ?_ | refine blockA_ret ?_ | refine blockA_normal ?_ | refine thenA_ret ?_ | refine thenA_exit ?_ | refine thenA_normal ?_)
              refine walkL_cond rfl (fun hb => ?_) (fun hb => ?_)
              · have hltj : j < l.length := by simpa using hb
                have hwj : IntKind.i64.wrap ((j : Int) + 1) = ((j + 1 : Nat) : Int) := by rw [wr_small (by omega)]; simp
                obtain ⟨h, hxj⟩ : ∃ h, l[j]? = some h := ⟨_, List.getElem?_eq_getElem hltj⟩
                have gj := hourRows_at hxj
                have k1 := f103 h.wind 0 200
                have k2 := f103 h.rain 0 100
                have k3 := f103 h.temp (-50) 50
                rw [Span.row] at k1 k2 k3
                obtain ⟨b1, e1⟩ : ∃ b, b = orderedB h.wind 0 200 := ⟨_, rfl⟩
                obtain ⟨b2, e2⟩ : ∃ b, b = orderedB h.rain 0 100 := ⟨_, rfl⟩
                obtain ⟨b3, e3⟩ : ∃ b, b = orderedB h.temp (-50) 50 := ⟨_, rfl⟩
                have hh : hourB h = (b1 && (b2 && b3)) := by rw [hourB, e1, e2, e3]
                rw [← e1] at k1
                rw [← e2] at k2
                rw [← e3] at k3
                have hbad : hourB h = false → foreF F = 50 := fun hf => hbadx l hlm (by simp [scenB, all_of_get hxj hf])
                cases b1
                · repeat (first | refine walkL_true rfl ?_ | refine walkL_false rfl ?_ | refine walkL_seq ?_ | refine walkL_skip ?_ | refine walkL_block ?_ | (refine walkL_region fun K hK => ?_; simp (maxSteps := 4000000) only [go_sem, gj, Hour.row]; (repeat (first | (refine ⟨_, .lent (hf := k1) (hd := rfl) (hr := rfl), ?_⟩; simp (maxSteps := 4000000) only [go_sem, gj, Hour.row]) | (refine ⟨_, .given (hf := k1) (hd := rfl) (ha := rfl), ?_⟩; simp (maxSteps := 4000000) only [go_sem, gj, Hour.row]))); refine hK _ ?_; clear hK K) | refine walkL_nil ?_ | refine walkL_ret ?_ | refine walkL_exit ?_ | refine blockA_here ?_ | refine blockA_other rfl ?_ | refine blockA_ret ?_ | refine blockA_normal ?_ | refine thenA_ret ?_ | refine thenA_exit ?_ | refine thenA_normal ?_)
                  simp (maxSteps := 4000000) only [go_sem, hbad (by rw [hh]; rfl)]
                · cases b2
                  · repeat (first | refine walkL_true rfl ?_ | refine walkL_false rfl ?_ | refine walkL_seq ?_ | refine walkL_skip ?_ | refine walkL_block ?_ | (refine walkL_region fun K hK => ?_; simp (maxSteps := 4000000) only [go_sem, gj, Hour.row]; (repeat (first | (refine ⟨_, .lent (hf := k1) (hd := rfl) (hr := rfl), ?_⟩; simp (maxSteps := 4000000) only [go_sem, gj, Hour.row]) | (refine ⟨_, .lent (hf := k2) (hd := rfl) (hr := rfl), ?_⟩; simp (maxSteps := 4000000) only [go_sem, gj, Hour.row]) | (refine ⟨_, .given (hf := k1) (hd := rfl) (ha := rfl), ?_⟩; simp (maxSteps := 4000000) only [go_sem, gj, Hour.row]) | (refine ⟨_, .given (hf := k2) (hd := rfl) (ha := rfl), ?_⟩; simp (maxSteps := 4000000) only [go_sem, gj, Hour.row]))); refine hK _ ?_; clear hK K) | refine walkL_nil ?_ | refine walkL_ret ?_ | refine walkL_exit ?_ | refine blockA_here ?_ | refine blockA_other rfl ?_ | refine blockA_ret ?_ | refine blockA_normal ?_ | refine thenA_ret ?_ | refine thenA_exit ?_ | refine thenA_normal ?_)
                    simp (maxSteps := 4000000) only [go_sem, hbad (by rw [hh]; rfl)]
                  · cases b3
                    · repeat (first | refine walkL_true rfl ?_ | refine walkL_false rfl ?_ | refine walkL_seq ?_ | refine walkL_skip ?_ | refine walkL_block ?_ | (refine walkL_region fun K hK => ?_; simp (maxSteps := 4000000) only [go_sem, gj, Hour.row]; (repeat (first | (refine ⟨_, .lent (hf := k1) (hd := rfl) (hr := rfl), ?_⟩; simp (maxSteps := 4000000) only [go_sem, gj, Hour.row]) | (refine ⟨_, .lent (hf := k2) (hd := rfl) (hr := rfl), ?_⟩; simp (maxSteps := 4000000) only [go_sem, gj, Hour.row]) | (refine ⟨_, .lent (hf := k3) (hd := rfl) (hr := rfl), ?_⟩; simp (maxSteps := 4000000) only [go_sem, gj, Hour.row]) | (refine ⟨_, .given (hf := k1) (hd := rfl) (ha := rfl), ?_⟩; simp (maxSteps := 4000000) only [go_sem, gj, Hour.row]) | (refine ⟨_, .given (hf := k2) (hd := rfl) (ha := rfl), ?_⟩; simp (maxSteps := 4000000) only [go_sem, gj, Hour.row]) | (refine ⟨_, .given (hf := k3) (hd := rfl) (ha := rfl), ?_⟩; simp (maxSteps := 4000000) only [go_sem, gj, Hour.row]))); refine hK _ ?_; clear hK K) | refine walkL_nil ?_ | refine walkL_ret ?_ | refine walkL_exit ?_ | refine blockA_here ?_ | refine blockA_other rfl ?_ | refine blockA_ret ?_ | refine blockA_normal ?_ | refine thenA_ret ?_ | refine thenA_exit ?_ | refine thenA_normal ?_)
                      simp (maxSteps := 4000000) only [go_sem, hbad (by rw [hh]; rfl)]
                    · repeat (first | refine walkL_true rfl ?_ | refine walkL_false rfl ?_ | refine walkL_seq ?_ | refine walkL_skip ?_ | refine walkL_block ?_ | (refine walkL_region fun K hK => ?_; simp (maxSteps := 4000000) only [go_sem, gj, Hour.row, hwj]; (repeat (first | (refine ⟨_, .lent (hf := k1) (hd := rfl) (hr := rfl), ?_⟩; simp (maxSteps := 4000000) only [go_sem, gj, Hour.row, hwj]) | (refine ⟨_, .lent (hf := k2) (hd := rfl) (hr := rfl), ?_⟩; simp (maxSteps := 4000000) only [go_sem, gj, Hour.row, hwj]) | (refine ⟨_, .lent (hf := k3) (hd := rfl) (hr := rfl), ?_⟩; simp (maxSteps := 4000000) only [go_sem, gj, Hour.row, hwj]) | (refine ⟨_, .given (hf := k1) (hd := rfl) (ha := rfl), ?_⟩; simp (maxSteps := 4000000) only [go_sem, gj, Hour.row, hwj]) | (refine ⟨_, .given (hf := k2) (hd := rfl) (ha := rfl), ?_⟩; simp (maxSteps := 4000000) only [go_sem, gj, Hour.row, hwj]) | (refine ⟨_, .given (hf := k3) (hd := rfl) (ha := rfl), ?_⟩; simp (maxSteps := 4000000) only [go_sem, gj, Hour.row, hwj]))); refine hK _ ?_; clear hK K) | refine walkL_nil ?_ | refine walkL_ret ?_ | refine walkL_exit ?_ | refine blockA_here ?_ | refine blockA_other rfl ?_ | refine blockA_ret ?_ | refine blockA_normal ?_ | refine thenA_ret ?_ | refine thenA_exit ?_ | refine thenA_normal ?_)
                      refine ⟨rfl, j + 1, ?_, ⟨hltj, all_take_succ hxj hallj (by rw [hh]; rfl)⟩, by omega⟩
                      refine weak_of [] ?_ ?_ rfl rfl <;> simp [lessT, lessM, lessB, AV.less]
              · have he : j = l.length := by (have : ¬ j < l.length := by simpa using hb); omega
                subst he
                rw [List.take_length] at hallj
                repeat (first | refine walkL_seq ?_ | refine walkL_skip ?_ | refine walkL_block ?_ | (refine walkL_region fun K hK => ?_; simp (maxSteps := 4000000) only [go_sem, hw]; refine hK _ ?_; clear hK K) | refine walkL_nil ?_ | refine walkL_ret ?_ | refine walkL_exit ?_ | refine blockA_here ?_ | refine blockA_other rfl ?_ | refine blockA_ret ?_ | refine blockA_normal ?_ | refine thenA_ret ?_ | refine thenA_exit ?_ | refine thenA_normal ?_)
                refine ⟨rfl, i + 1, ?_, ⟨hlt, all_take_succ hx hall (by rw [scenB, hw1, hallj]; simp [hll])⟩, by omega⟩
                refine weak_of [] ?_ ?_ rfl rfl <;> simp [lessT, lessM, lessB, AV.less]
          · have hne : ¬ (l.length : Int) = (H0.length : Int) := by simpa using q3
            have hf : scenB H0 l = false := by
              have : ((l.length : Int) == (H0.length : Int)) = false := by simpa using hne
              unfold scenB
              rw [this]
              simp
            repeat (first | refine walkL_true rfl ?_ | refine walkL_false rfl ?_ | refine walkL_seq ?_ | refine walkL_skip ?_ | refine walkL_block ?_ | (refine walkL_region fun K hK => ?_; simp (maxSteps := 4000000) only [go_sem, g1, q3]; (repeat (first | (refine ⟨_, .lent (hf := h71) (hd := rfl) (hr := rfl), ?_⟩; simp (maxSteps := 4000000) only [go_sem, g1, q3]) | (refine ⟨_, .given (hf := h71) (hd := rfl) (ha := rfl), ?_⟩; simp (maxSteps := 4000000) only [go_sem, g1, q3]))); refine hK _ ?_; clear hK K) | refine walkL_nil ?_ | refine walkL_ret ?_ | refine walkL_exit ?_ | refine blockA_here ?_ | refine blockA_other rfl ?_ | refine blockA_ret ?_ | refine blockA_normal ?_ | refine thenA_ret ?_ | refine thenA_exit ?_ | refine thenA_normal ?_)
            simp (maxSteps := 4000000) only [go_sem, hbadx l hlm hf]
        · have he : i = F.length := by (have : ¬ i < F.length := by simpa using hb); omega
          subst he
          rw [List.take_length] at hall
          repeat (first | refine walkL_seq ?_ | refine walkL_skip ?_ | refine walkL_block ?_ | (refine walkL_region fun K hK => ?_; simp (maxSteps := 4000000) only [go_sem]; refine hK _ ?_; clear hK K) | refine walkL_nil ?_ | refine walkL_ret ?_ | refine walkL_exit ?_ | refine blockA_here ?_ | refine blockA_other rfl ?_ | refine blockA_ret ?_ | refine blockA_normal ?_ | refine thenA_ret ?_ | refine thenA_exit ?_ | refine thenA_normal ?_)
          simp (maxSteps := 4000000) only [go_sem, foreF, badF, q1, ← hH0, hall]

theorem point_ok (s : Sky) : hourB (pointH s) = (withinB s.wind 0 200 && (withinB s.rain 0 100 && withinB s.temp (-50) 50)) := by
  have e : ∀ n lo hi : Int, orderedB ⟨n, n⟩ lo hi = withinB n lo hi := fun n lo hi => by
    unfold orderedB withinB
    dsimp only
    rw [decide_eq_true (Int.le_refl n), Bool.true_and]
  rw [hourB, pointH, e, e, e]

theorem f96 (F : List (List Hour)) (h0 : List Hour) (x : Int) (h : F[0]? = some h0) (hl : h0.length < 2 ^ 30) : Fn Try.prog 96 [.agg [.sl (scenRows F)], .i x] (.bool (withinB x 0 ((h0.length : Int) - 1))) := by
  have h71 := f71 F h0 h
  have h97 := f97 x 0 ((h0.length : Int) - 1)
  have hw : IntKind.i64.wrap ((h0.length : Int) - 1) = (h0.length : Int) - 1 := wr_small (by omega)
  refine fn_walk 10 Try.call96 Try.func96 rfl (by decide) fun J => ?_
  simp (maxSteps := 4000000) only [go_sem, St.start, Try.ntmps96, Try.results96]
  repeat (first | refine walkL_seq ?_ | refine walkL_skip ?_ | refine walkL_block ?_ | (refine walkL_region fun K hK => ?_; simp (maxSteps := 4000000) only [go_sem, hw]; (repeat (first | (refine ⟨_, .lent (hf := h71) (hd := rfl) (hr := rfl), ?_⟩; simp (maxSteps := 4000000) only [go_sem, hw]) | (refine ⟨_, .lent (hf := h97) (hd := rfl) (hr := rfl), ?_⟩; simp (maxSteps := 4000000) only [go_sem, hw]) | (refine ⟨_, .given (hf := h71) (hd := rfl) (ha := rfl), ?_⟩; simp (maxSteps := 4000000) only [go_sem, hw]) | (refine ⟨_, .given (hf := h97) (hd := rfl) (ha := rfl), ?_⟩; simp (maxSteps := 4000000) only [go_sem, hw]))); refine hK _ ?_; clear hK K) | refine walkL_nil ?_ | refine walkL_ret ?_ | refine walkL_exit ?_ | refine blockA_here ?_ | refine blockA_other rfl ?_ | refine blockA_ret ?_ | refine blockA_normal ?_ | refine thenA_ret ?_ | refine thenA_exit ?_ | refine thenA_normal ?_)
  simp (maxSteps := 4000000) only [go_sem]

def seenF (F : List (List Hour)) (seen : List Sight) : Int := if badF F then 50 else if sightsB (hd0 F).length seen then 0 else 51

theorem f68 (F : List (List Hour)) (seen : List Sight) (hs : ForeSmall F) (hsl : seen.length < 2 ^ 30) : Fn Try.prog 68 [.agg [.sl (scenRows F)], .sl (sightRows seen)] (.i (seenF F seen)) := by
  have h86 := f86 F hs
  cases hb : badF F
  · have hg := fore_iff.1 hb
    have hF := hg.scen
    have hH := hg.hours
    have e86 : foreF F = 0 := by simp [foreF, hb]
    rw [e86] at h86
    have h0 := headD_get (F := F) (by omega)
    obtain ⟨H0, hH0⟩ : ∃ H0, H0 = hd0 F := ⟨_, rfl⟩
    rw [← hH0] at h0 hH
    have e0 : seenF F seen = if sightsB (H0.length : Int) seen then 0 else 51 := by simp [seenF, hb, ← hH0]
    rw [e0]
    cases hlen : decide ((seen.length : Int) > 20)
    · have hlen' := of_decide_eq_false hlen
      refine fn_walk 67 Try.call68 Try.func68 rfl (by decide) fun J => ?_
      simp (maxSteps := 4000000) only [go_sem, St.start, Try.ntmps68, Try.results68]
      repeat (first | refine walkL_true rfl ?_ | refine walkL_false rfl ?_ | refine walkL_seq ?_ | refine walkL_skip ?_ | refine walkL_block ?_ | (refine walkL_region fun K hK => ?_; simp (maxSteps := 4000000) only [go_sem, hlen]; (repeat (first | (refine ⟨_, .lent (hf := h86) (hd := rfl) (hr := rfl), ?_⟩; simp (maxSteps := 4000000) only [go_sem, hlen]) | (refine ⟨_, .given (hf := h86) (hd := rfl) (ha := rfl), ?_⟩; simp (maxSteps := 4000000) only [go_sem, hlen]))); refine hK _ ?_; clear hK K) | refine walkL_nil ?_ | refine walkL_ret ?_ | refine walkL_exit ?_ | refine blockA_here ?_ | refine blockA_other rfl ?_ | refine blockA_ret ?_ | refine blockA_normal ?_ | refine thenA_ret ?_ | refine thenA_exit ?_ | refine thenA_normal ?_)
      refine walkL_loopS (fun (i : Nat) => [(5, .d (.i i))]) (fun _ => []) (fun i => i ≤ seen.length ∧ (seen.take i).all (sightOk H0.length) = true ∧ ((seen.take i).map (·.hour)).Nodup) (fun i => seen.length - i) 0 ?_ ⟨Nat.zero_le _, rfl, by simp⟩ ?_
      · simp (maxSteps := 4000000) only [go_sem]
        refine weak_of [] ?_ ?_ rfl rfl <;> simp [lessT, lessM, lessB, AV.less]
      · intro i ⟨hi, hall, hnd⟩
        simp (maxSteps := 4000000) only [go_sem]
        repeat (first | refine walkL_seq ?_ | refine walkL_skip ?_ | refine walkL_block ?_ | (refine walkL_region fun K hK => ?_; simp (maxSteps := 4000000) only [go_sem]; refine hK _ ?_; clear hK K) | refine walkL_nil ?_ | refine walkL_ret ?_ | refine walkL_exit ?_ | refine blockA_here ?_ | refine blockA_other rfl ?_ | refine blockA_ret ?_ | refine blockA_normal ?_ | refine thenA_ret ?_ | refine thenA_exit ?_ | refine thenA_normal ?_)
        refine walkL_cond rfl (fun hb => ?_) (fun hb => ?_)
        · have hlt : i < seen.length := by simpa using hb
          have hw : IntKind.i64.wrap ((i : Int) + 1) = ((i + 1 : Nat) : Int) := by rw [wr_small (by omega)]; simp
          obtain ⟨s, hx⟩ : ∃ s, seen[i]? = some s := ⟨_, List.getElem?_eq_getElem hlt⟩
          have g1 := sightRows_at hx
          have htk : seen.take (i + 1) = seen.take i ++ [s] := by rw [List.take_add_one, hx]; rfl
          have k0 := f96 F H0 s.hour h0 (by omega)
          have k1 := f97 s.sky.wind 0 200
          have k2 := f97 s.sky.rain 0 100
          have k3 := f97 s.sky.temp (-50) 50
          obtain ⟨b0, e0⟩ : ∃ b, b = withinB s.hour 0 ((H0.length : Int) - 1) := ⟨_, rfl⟩
          obtain ⟨b1, e1⟩ : ∃ b, b = withinB s.sky.wind 0 200 := ⟨_, rfl⟩
          obtain ⟨b2, e2⟩ : ∃ b, b = withinB s.sky.rain 0 100 := ⟨_, rfl⟩
          obtain ⟨b3, e3⟩ : ∃ b, b = withinB s.sky.temp (-50) 50 := ⟨_, rfl⟩
          have hh : sightOk H0.length s = (b0 && (b1 && (b2 && b3))) := by rw [sightOk, point_ok, e0, e1, e2, e3]
          rw [← e0] at k0
          rw [← e1] at k1
          rw [← e2] at k2
          rw [← e3] at k3
          have hbad : sightOk H0.length s = false → sightsB (H0.length : Int) seen = false := fun hf => by rw [sightsB, all_of_get hx hf]; rfl
          cases b0
          · repeat (first | refine walkL_true rfl ?_ | refine walkL_false rfl ?_ | refine walkL_seq ?_ | refine walkL_skip ?_ | refine walkL_block ?_ | (refine walkL_region fun K hK => ?_; simp (maxSteps := 4000000) only [go_sem, g1, Sight.row]; (repeat (first | (refine ⟨_, .lent (hf := k0) (hd := rfl) (hr := rfl), ?_⟩; simp (maxSteps := 4000000) only [go_sem, g1, Sight.row]) | (refine ⟨_, .given (hf := k0) (hd := rfl) (ha := rfl), ?_⟩; simp (maxSteps := 4000000) only [go_sem, g1, Sight.row]))); refine hK _ ?_; clear hK K) | (refine walkL_drawn (by kernel_rfl) (by kernel_rfl) fun K hK => ?_; simp (maxSteps := 4000000) only [go_sem, g1, Sight.row]; (repeat (first | (refine ⟨_, .fn (hf := k0) (hd := rfl) (hr := .inl rfl), ?_⟩; simp (maxSteps := 4000000) only [go_sem, g1, Sight.row]))); refine ⟨by kernel_rfl, hK _ ?_⟩; clear hK K) | refine walkL_nil ?_ | refine walkL_ret ?_ | refine walkL_exit ?_ | refine blockA_here ?_ | refine blockA_other rfl ?_ | refine blockA_ret ?_ | refine blockA_normal ?_ | refine thenA_ret ?_ | refine thenA_exit ?_ | refine thenA_normal ?_)
            simp (maxSteps := 4000000) only [go_sem, hbad (by rw [hh]; rfl)]
          cases b1
          · repeat (first | refine walkL_true rfl ?_ | refine walkL_false rfl ?_ | refine walkL_seq ?_ | refine walkL_skip ?_ | refine walkL_block ?_ | (refine walkL_region fun K hK => ?_; simp (maxSteps := 4000000) only [go_sem, g1, Sight.row]; (repeat (first | (refine ⟨_, .lent (hf := k0) (hd := rfl) (hr := rfl), ?_⟩; simp (maxSteps := 4000000) only [go_sem, g1, Sight.row]) | (refine ⟨_, .lent (hf := k1) (hd := rfl) (hr := rfl), ?_⟩; simp (maxSteps := 4000000) only [go_sem, g1, Sight.row]) | (refine ⟨_, .given (hf := k0) (hd := rfl) (ha := rfl), ?_⟩; simp (maxSteps := 4000000) only [go_sem, g1, Sight.row]) | (refine ⟨_, .given (hf := k1) (hd := rfl) (ha := rfl), ?_⟩; simp (maxSteps := 4000000) only [go_sem, g1, Sight.row]))); refine hK _ ?_; clear hK K) | (refine walkL_drawn (by kernel_rfl) (by kernel_rfl) fun K hK => ?_; simp (maxSteps := 4000000) only [go_sem, g1, Sight.row]; (repeat (first | (refine ⟨_, .fn (hf := k0) (hd := rfl) (hr := .inl rfl), ?_⟩; simp (maxSteps := 4000000) only [go_sem, g1, Sight.row]) | (refine ⟨_, .fn (hf := k1) (hd := rfl) (hr := .inl rfl), ?_⟩; simp (maxSteps := 4000000) only [go_sem, g1, Sight.row]))); refine ⟨by kernel_rfl, hK _ ?_⟩; clear hK K) | refine walkL_nil ?_ | refine walkL_ret ?_ | refine walkL_exit ?_ | refine blockA_here ?_ | refine blockA_other rfl ?_ | refine blockA_ret ?_ | refine blockA_normal ?_ | refine thenA_ret ?_ | refine thenA_exit ?_ | refine thenA_normal ?_)
            simp (maxSteps := 4000000) only [go_sem, hbad (by rw [hh]; rfl)]
          cases b2
          · repeat (first | refine walkL_true rfl ?_ | refine walkL_false rfl ?_ | refine walkL_seq ?_ | refine walkL_skip ?_ | refine walkL_block ?_ | (refine walkL_region fun K hK => ?_; simp (maxSteps := 4000000) only [go_sem, g1, Sight.row]; (repeat (first | (refine ⟨_, .lent (hf := k0) (hd := rfl) (hr := rfl), ?_⟩; simp (maxSteps := 4000000) only [go_sem, g1, Sight.row]) | (refine ⟨_, .lent (hf := k1) (hd := rfl) (hr := rfl), ?_⟩; simp (maxSteps := 4000000) only [go_sem, g1, Sight.row]) | (refine ⟨_, .lent (hf := k2) (hd := rfl) (hr := rfl), ?_⟩; simp (maxSteps := 4000000) only [go_sem, g1, Sight.row]) | (refine ⟨_, .given (hf := k0) (hd := rfl) (ha := rfl), ?_⟩; simp (maxSteps := 4000000) only [go_sem, g1, Sight.row]) | (refine ⟨_, .given (hf := k1) (hd := rfl) (ha := rfl), ?_⟩; simp (maxSteps := 4000000) only [go_sem, g1, Sight.row]) | (refine ⟨_, .given (hf := k2) (hd := rfl) (ha := rfl), ?_⟩; simp (maxSteps := 4000000) only [go_sem, g1, Sight.row]))); refine hK _ ?_; clear hK K) | (refine walkL_drawn (by kernel_rfl) (by kernel_rfl) fun K hK => ?_; simp (maxSteps := 4000000) only [go_sem, g1, Sight.row]; (repeat (first | (refine ⟨_, .fn (hf := k0) (hd := rfl) (hr := .inl rfl), ?_⟩; simp (maxSteps := 4000000) only [go_sem, g1, Sight.row]) | (refine ⟨_, .fn (hf := k1) (hd := rfl) (hr := .inl rfl), ?_⟩; simp (maxSteps := 4000000) only [go_sem, g1, Sight.row]) | (refine ⟨_, .fn (hf := k2) (hd := rfl) (hr := .inl rfl), ?_⟩; simp (maxSteps := 4000000) only [go_sem, g1, Sight.row]))); refine ⟨by kernel_rfl, hK _ ?_⟩; clear hK K) | refine walkL_nil ?_ | refine walkL_ret ?_ | refine walkL_exit ?_ | refine blockA_here ?_ | refine blockA_other rfl ?_ | refine blockA_ret ?_ | refine blockA_normal ?_ | refine thenA_ret ?_ | refine thenA_exit ?_ | refine thenA_normal ?_)
            simp (maxSteps := 4000000) only [go_sem, hbad (by rw [hh]; rfl)]
          cases b3
          · repeat (first | refine walkL_true rfl ?_ | refine walkL_false rfl ?_ | refine walkL_seq ?_ | refine walkL_skip ?_ | refine walkL_block ?_ | (refine walkL_region fun K hK => ?_; simp (maxSteps := 4000000) only [go_sem, g1, Sight.row]; (repeat (first | (refine ⟨_, .lent (hf := k0) (hd := rfl) (hr := rfl), ?_⟩; simp (maxSteps := 4000000) only [go_sem, g1, Sight.row]) | (refine ⟨_, .lent (hf := k1) (hd := rfl) (hr := rfl), ?_⟩; simp (maxSteps := 4000000) only [go_sem, g1, Sight.row]) | (refine ⟨_, .lent (hf := k2) (hd := rfl) (hr := rfl), ?_⟩; simp (maxSteps := 4000000) only [go_sem, g1, Sight.row]) | (refine ⟨_, .lent (hf := k3) (hd := rfl) (hr := rfl), ?_⟩; simp (maxSteps := 4000000) only [go_sem, g1, Sight.row]) | (refine ⟨_, .given (hf := k0) (hd := rfl) (ha := rfl), ?_⟩; simp (maxSteps := 4000000) only [go_sem, g1, Sight.row]) | (refine ⟨_, .given (hf := k1) (hd := rfl) (ha := rfl), ?_⟩; simp (maxSteps := 4000000) only [go_sem, g1, Sight.row]) | (refine ⟨_, .given (hf := k2) (hd := rfl) (ha := rfl), ?_⟩; simp (maxSteps := 4000000) only [go_sem, g1, Sight.row]) | (refine ⟨_, .given (hf := k3) (hd := rfl) (ha := rfl), ?_⟩; simp (maxSteps := 4000000) only [go_sem, g1, Sight.row]))); refine hK _ ?_; clear hK K) | (refine walkL_drawn (by kernel_rfl) (by kernel_rfl) fun K hK => ?_; simp (maxSteps := 4000000) only [go_sem, g1, Sight.row]; (repeat (first | (refine ⟨_, .fn (hf := k0) (hd := rfl) (hr := .inl rfl), ?_⟩; simp (maxSteps := 4000000) only [go_sem, g1, Sight.row]) | (refine ⟨_, .fn (hf := k1) (hd := rfl) (hr := .inl rfl), ?_⟩; simp (maxSteps := 4000000) only [go_sem, g1, Sight.row]) | (refine ⟨_, .fn (hf := k2) (hd := rfl) (hr := .inl rfl), ?_⟩; simp (maxSteps := 4000000) only [go_sem, g1, Sight.row]) | (refine ⟨_, .fn (hf := k3) (hd := rfl) (hr := .inl rfl), ?_⟩; simp (maxSteps := 4000000) only [go_sem, g1, Sight.row]))); refine ⟨by kernel_rfl, hK _ ?_⟩; clear hK K) | refine walkL_nil ?_ | refine walkL_ret ?_ | refine walkL_exit ?_ | refine blockA_here ?_ | refine blockA_other rfl ?_ | refine blockA_ret ?_ | refine blockA_normal ?_ | refine thenA_ret ?_ | refine thenA_exit ?_ | refine thenA_normal ?_)
            simp (maxSteps := 4000000) only [go_sem, hbad (by rw [hh]; rfl)]
          repeat (first | refine walkL_true rfl ?_ | refine walkL_false rfl ?_ | refine walkL_seq ?_ | refine walkL_skip ?_ | refine walkL_block ?_ | (refine walkL_region fun K hK => ?_; simp (maxSteps := 4000000) only [go_sem, g1, Sight.row]; (repeat (first | (refine ⟨_, .lent (hf := k0) (hd := rfl) (hr := rfl), ?_⟩; simp (maxSteps := 4000000) only [go_sem, g1, Sight.row]) | (refine ⟨_, .lent (hf := k1) (hd := rfl) (hr := rfl), ?_⟩; simp (maxSteps := 4000000) only [go_sem, g1, Sight.row]) | (refine ⟨_, .lent (hf := k2) (hd := rfl) (hr := rfl), ?_⟩; simp (maxSteps := 4000000) only [go_sem, g1, Sight.row]) | (refine ⟨_, .lent (hf := k3) (hd := rfl) (hr := rfl), ?_⟩; simp (maxSteps := 4000000) only [go_sem, g1, Sight.row]) | (refine ⟨_, .given (hf := k0) (hd := rfl) (ha := rfl), ?_⟩; simp (maxSteps := 4000000) only [go_sem, g1, Sight.row]) | (refine ⟨_, .given (hf := k1) (hd := rfl) (ha := rfl), ?_⟩; simp (maxSteps := 4000000) only [go_sem, g1, Sight.row]) | (refine ⟨_, .given (hf := k2) (hd := rfl) (ha := rfl), ?_⟩; simp (maxSteps := 4000000) only [go_sem, g1, Sight.row]) | (refine ⟨_, .given (hf := k3) (hd := rfl) (ha := rfl), ?_⟩; simp (maxSteps := 4000000) only [go_sem, g1, Sight.row]))); refine hK _ ?_; clear hK K) | (refine walkL_drawn (by kernel_rfl) (by kernel_rfl) fun K hK => ?_; simp (maxSteps := 4000000) only [go_sem, g1, Sight.row]; (repeat (first | (refine ⟨_, .fn (hf := k0) (hd := rfl) (hr := .inl rfl), ?_⟩; simp (maxSteps := 4000000) only [go_sem, g1, Sight.row]) | (refine ⟨_, .fn (hf := k1) (hd := rfl) (hr := .inl rfl), ?_⟩; simp (maxSteps := 4000000) only [go_sem, g1, Sight.row]) | (refine ⟨_, .fn (hf := k2) (hd := rfl) (hr := .inl rfl), ?_⟩; simp (maxSteps := 4000000) only [go_sem, g1, Sight.row]) | (refine ⟨_, .fn (hf := k3) (hd := rfl) (hr := .inl rfl), ?_⟩; simp (maxSteps := 4000000) only [go_sem, g1, Sight.row]))); refine ⟨by kernel_rfl, hK _ ?_⟩; clear hK K) | refine walkL_nil ?_ | refine walkL_ret ?_ | refine walkL_exit ?_ | refine blockA_here ?_ | refine blockA_other rfl ?_ | refine blockA_ret ?_ | refine blockA_normal ?_ | refine thenA_ret ?_ | refine thenA_exit ?_ | refine thenA_normal ?_)
          refine walkL_loopS (fun (j : Nat) => [(7, .d (.i j))]) (fun _ => []) (fun j => j ≤ i ∧ ∀ x ∈ seen.take j, x.hour ≠ s.hour) (fun j => i - j) 0 ?_ ⟨Nat.zero_le _, by simp⟩ ?_
          · simp (maxSteps := 4000000) only [go_sem]
            refine weak_of [] ?_ ?_ rfl rfl <;> simp [lessT, lessM, lessB, AV.less]
          · intro j ⟨hj, hno⟩
            simp (maxSteps := 4000000) only [go_sem]
            repeat (first | refine walkL_seq ?_ | refine walkL_skip ?_ | refine walkL_block ?_ | (refine walkL_region fun K hK => ?_; simp (maxSteps := 4000000) only [go_sem]; refine hK _ ?_; clear hK K) | refine walkL_nil ?_ | refine walkL_ret ?_ | refine walkL_exit ?_ | refine blockA_here ?_ | refine blockA_other rfl ?_ | refine blockA_ret ?_ | refine blockA_normal ?_ | refine thenA_ret ?_ | refine thenA_exit ?_ | refine thenA_normal ?_)
            refine walkL_cond rfl (fun hb => ?_) (fun hb => ?_)
            · have hltj : j < i := by simpa using hb
              have hwj : IntKind.i64.wrap ((j : Int) + 1) = ((j + 1 : Nat) : Int) := by rw [wr_small (by omega)]; simp
              obtain ⟨y, hy⟩ : ∃ y, seen[j]? = some y := ⟨_, List.getElem?_eq_getElem (by omega)⟩
              have gj := sightRows_at hy
              cases hq : (y.hour == s.hour)
              · have hne : y.hour ≠ s.hour := by simpa using hq
                repeat (first | refine walkL_true rfl ?_ | refine walkL_false rfl ?_ | refine walkL_seq ?_ | refine walkL_skip ?_ | refine walkL_block ?_ | (refine walkL_region fun K hK => ?_; simp (maxSteps := 4000000) only [go_sem, gj, g1, Sight.row, hq, hwj]; refine hK _ ?_; clear hK K) | (refine walkL_drawn (by kernel_rfl) (by kernel_rfl) fun K hK => ?_; simp (maxSteps := 4000000) only [go_sem, gj, g1, Sight.row, hq, hwj]; refine ⟨by kernel_rfl, hK _ ?_⟩; clear hK K) | refine walkL_nil ?_ | refine walkL_ret ?_ | refine walkL_exit ?_ | refine blockA_here ?_ | refine blockA_other rfl ?_ | refine blockA_ret ?_ | refine blockA_normal ?_ | refine thenA_ret ?_ | refine thenA_exit ?_ | refine thenA_normal ?_)
                refine ⟨rfl, j + 1, ?_, ⟨hltj, fun x hx2 => ?_⟩, by omega⟩
                · refine weak_of [] ?_ ?_ rfl rfl <;> simp [lessT, lessM, lessB, AV.less]
                · rw [List.take_add_one, hy, List.mem_append] at hx2
                  rcases hx2 with hx2 | hx2
                  · exact hno x hx2
                  · have : x = y := by simpa using hx2
                    rw [this]; exact hne
              · have heq : y.hour = s.hour := by simpa using hq
                have hF : sightsB (H0.length : Int) seen = false := by
                  have : ¬ (seen.map (·.hour)).Nodup := fun hn => by
                    have h3 : (((seen.take (i + 1)).map (·.hour))).Nodup := (List.Sublist.map _ (List.take_sublist _ _)).nodup hn
                    rw [htk, List.map_append, List.nodup_append] at h3
                    refine h3.2.2 y.hour (List.mem_map.2 ⟨y, ?_, rfl⟩) s.hour (by simp) heq
                    exact List.mem_of_getElem? (i := j) (by rw [List.getElem?_take, if_pos hltj]; exact hy)
                  simp [sightsB, this]
                repeat (first | refine walkL_true rfl ?_ | refine walkL_false rfl ?_ | refine walkL_seq ?_ | refine walkL_skip ?_ | refine walkL_block ?_ | (refine walkL_region fun K hK => ?_; simp (maxSteps := 4000000) only [go_sem, gj, g1, Sight.row, hq]; refine hK _ ?_; clear hK K) | (refine walkL_drawn (by kernel_rfl) (by kernel_rfl) fun K hK => ?_; simp (maxSteps := 4000000) only [go_sem, gj, g1, Sight.row, hq]; refine ⟨by kernel_rfl, hK _ ?_⟩; clear hK K) | refine walkL_nil ?_ | refine walkL_ret ?_ | refine walkL_exit ?_ | refine blockA_here ?_ | refine blockA_other rfl ?_ | refine blockA_ret ?_ | refine blockA_normal ?_ | refine thenA_ret ?_ | refine thenA_exit ?_ | refine thenA_normal ?_)
                simp (maxSteps := 4000000) only [go_sem, hF]
            · have he : j = i := by (have : ¬ j < i := by simpa using hb); omega
              subst he
              repeat (first | refine walkL_seq ?_ | refine walkL_skip ?_ | refine walkL_block ?_ | (refine walkL_region fun K hK => ?_; simp (maxSteps := 4000000) only [go_sem, hw]; refine hK _ ?_; clear hK K) | refine walkL_nil ?_ | refine walkL_ret ?_ | refine walkL_exit ?_ | refine blockA_here ?_ | refine blockA_other rfl ?_ | refine blockA_ret ?_ | refine blockA_normal ?_ | refine thenA_ret ?_ | refine thenA_exit ?_ | refine thenA_normal ?_)
              refine ⟨rfl, j + 1, ?_, ⟨hlt, all_take_succ hx hall (by rw [hh]; rfl), ?_⟩, by omega⟩
              · refine weak_of [] ?_ ?_ rfl rfl <;> simp [lessT, lessM, lessB, AV.less]
              · rw [htk, List.map_append, List.nodup_append]
                refine ⟨hnd, by simp, fun a ha b hb e => ?_⟩
                obtain ⟨z, hz, rfl⟩ := List.mem_map.1 ha
                have : b = s.hour := by simpa using hb
                exact hno z hz (by rw [e, this])
        · have he : i = seen.length := by (have : ¬ i < seen.length := by simpa using hb); omega
          subst he
          rw [List.take_length] at hall hnd
          have hF : sightsB (H0.length : Int) seen = true := by
            simp only [sightsB, hall, Bool.true_and, Bool.and_eq_true, decide_eq_true_eq]
            exact ⟨hnd, by omega⟩
          repeat (first | refine walkL_seq ?_ | refine walkL_skip ?_ | refine walkL_block ?_ | (refine walkL_region fun K hK => ?_; simp (maxSteps := 4000000) only [go_sem]; refine hK _ ?_; clear hK K) | refine walkL_nil ?_ | refine walkL_ret ?_ | refine walkL_exit ?_ | refine blockA_here ?_ | refine blockA_other rfl ?_ | refine blockA_ret ?_ | refine blockA_normal ?_ | refine thenA_ret ?_ | refine thenA_exit ?_ | refine thenA_normal ?_)
          simp (maxSteps := 4000000) only [go_sem, hF, if_true]
    · have hlen' := of_decide_eq_true hlen
      have hF : sightsB (H0.length : Int) seen = false := by
        have : decide ((seen.length : Int) ≤ 20) = false := by simp; omega
        simp only [sightsB, this, Bool.and_false]
      rw [hF, if_neg (by decide)]
      refine fn_walk 67 Try.call68 Try.func68 rfl (by decide) fun J => ?_
      simp (maxSteps := 4000000) only [go_sem, St.start, Try.ntmps68, Try.results68]
      repeat (first | refine walkL_true rfl ?_ | refine walkL_false rfl ?_ | refine walkL_seq ?_ | refine walkL_skip ?_ | refine walkL_block ?_ | (refine walkL_region fun K hK => ?_; simp (maxSteps := 4000000) only [go_sem, hlen]; (repeat (first | (refine ⟨_, .lent (hf := h86) (hd := rfl) (hr := rfl), ?_⟩; simp (maxSteps := 4000000) only [go_sem, hlen]) | (refine ⟨_, .given (hf := h86) (hd := rfl) (ha := rfl), ?_⟩; simp (maxSteps := 4000000) only [go_sem, hlen]))); refine hK _ ?_; clear hK K) | refine walkL_nil ?_ | refine walkL_ret ?_ | refine walkL_exit ?_ | refine blockA_here ?_ | refine blockA_other rfl ?_ | refine blockA_ret ?_ | refine blockA_normal ?_ | refine thenA_ret ?_ | refine thenA_exit ?_ | refine thenA_normal ?_)
      simp (maxSteps := 4000000) only [go_sem]
  · have e86 : foreF F = 50 := by simp [foreF, hb]
    have e0 : seenF F seen = 50 := by simp [seenF, hb]
    rw [e86] at h86
    rw [e0]
    refine fn_walk 67 Try.call68 Try.func68 rfl (by decide) fun J => ?_
    simp (maxSteps := 4000000) only [go_sem, St.start, Try.ntmps68, Try.results68]
    repeat (first | refine walkL_true rfl ?_ | refine walkL_false rfl ?_ | refine walkL_seq ?_ | refine walkL_skip ?_ | refine walkL_block ?_ | (refine walkL_region fun K hK => ?_; simp (maxSteps := 4000000) only [go_sem]; (repeat (first | (refine ⟨_, .lent (hf := h86) (hd := rfl) (hr := rfl), ?_⟩; simp (maxSteps := 4000000) only [go_sem]) | (refine ⟨_, .given (hf := h86) (hd := rfl) (ha := rfl), ?_⟩; simp (maxSteps := 4000000) only [go_sem]))); refine hK _ ?_; clear hK K) | refine walkL_nil ?_ | refine walkL_ret ?_ | refine walkL_exit ?_ | refine blockA_here ?_ | refine blockA_other rfl ?_ | refine blockA_ret ?_ | refine blockA_normal ?_ | refine thenA_ret ?_ | refine thenA_exit ?_ | refine thenA_normal ?_)
    simp (maxSteps := 4000000) only [go_sem]
end Go.Ab
namespace Go.Ab
open Go.RowKit Go.Proofs
set_option maxHeartbeats 8000000
set_option maxRecDepth 20000
attribute [local irreducible] WalkL Walk

theorem f90 (s : Sky) (h : Hour) : Fn Try.prog 90 [.agg s.row, .agg h.row] (.bool (insideB s h)) := by
  have h1 := f104 s.wind h.wind
  have h2 := f104 s.rain h.rain
  have h3 := f104 s.temp h.temp
  rw [Span.row] at h1 h2 h3
  obtain ⟨b1, e1⟩ : ∃ b, b = withinB s.wind h.wind.lo h.wind.hi := ⟨_, rfl⟩
  obtain ⟨b2, e2⟩ : ∃ b, b = withinB s.rain h.rain.lo h.rain.hi := ⟨_, rfl⟩
  obtain ⟨b3, e3⟩ : ∃ b, b = withinB s.temp h.temp.lo h.temp.hi := ⟨_, rfl⟩
  rw [insideB, ← e1, ← e2, ← e3]
  rw [← e1] at h1
  rw [← e2] at h2
  rw [← e3] at h3
  refine fn_walk 24 Try.call90 Try.func90 rfl (by decide) fun J => ?_
  simp (maxSteps := 4000000) only [go_sem, St.start, Try.ntmps90, Try.results90, Hour.row, Sky.row]
  cases b1 <;> cases b2
  all_goals
    repeat (first | refine walkL_seq ?_ | refine walkL_skip ?_ | refine walkL_block ?_ | (refine walkL_region fun K hK => ?_; simp (maxSteps := 4000000) only [go_sem]; (repeat (first | (refine ⟨_, .lent (hf := h1) (hd := rfl) (hr := rfl), ?_⟩; simp (maxSteps := 4000000) only [go_sem]) | (refine ⟨_, .lent (hf := h2) (hd := rfl) (hr := rfl), ?_⟩; simp (maxSteps := 4000000) only [go_sem]) | (refine ⟨_, .lent (hf := h3) (hd := rfl) (hr := rfl), ?_⟩; simp (maxSteps := 4000000) only [go_sem]) | (refine ⟨_, .given (hf := h1) (hd := rfl) (ha := rfl), ?_⟩; simp (maxSteps := 4000000) only [go_sem]) | (refine ⟨_, .given (hf := h2) (hd := rfl) (ha := rfl), ?_⟩; simp (maxSteps := 4000000) only [go_sem]) | (refine ⟨_, .given (hf := h3) (hd := rfl) (ha := rfl), ?_⟩; simp (maxSteps := 4000000) only [go_sem]))); refine hK _ ?_; clear hK K) | refine walkL_nil ?_ | refine walkL_ret ?_ | refine walkL_exit ?_ | refine blockA_here ?_ | refine blockA_other rfl ?_ | refine blockA_ret ?_ | refine blockA_normal ?_ | refine thenA_ret ?_ | refine thenA_exit ?_ | refine thenA_normal ?_)
    simp (maxSteps := 4000000) only [go_sem]

theorem f69 (F : List (List Hour)) (seen : List Sight) (hg : ForeGood F) (hsi : sightsB (hd0 F).length seen = true) : Fn Try.prog 69 [.agg [.sl (scenRows F)], .sl (sightRows seen)] (.sl (intRows (numsOf (possL F seen)))) := by
  obtain ⟨s1, s2, s3⟩ := sights_spec hsi
  have hF := hg.scen
  have hH := hg.hours
  refine fn_walk 50 Try.call69 Try.func69 rfl (by decide) fun J => ?_
  simp (maxSteps := 4000000) only [go_sem, St.start, Try.ntmps69, Try.results69]
  repeat (first | refine walkL_seq ?_ | refine walkL_skip ?_ | refine walkL_block ?_ | (refine walkL_region fun K hK => ?_; simp (maxSteps := 4000000) only [go_sem]; refine hK _ ?_; clear hK K) | refine walkL_nil ?_ | refine walkL_ret ?_ | refine walkL_exit ?_ | refine blockA_here ?_ | refine blockA_other rfl ?_ | refine blockA_ret ?_ | refine blockA_normal ?_ | refine thenA_ret ?_ | refine thenA_exit ?_ | refine thenA_normal ?_)
  refine walkL_loopS (fun (i : Nat) => [(6, .d (.i i)), (5, .own 48)]) (fun i => [(48, some (.arr 3 1 (intRows (numsOf (possFrom seen (F.take i) 0)))))]) (fun i => i ≤ F.length) (fun i => F.length - i) 0 ?_ (Nat.zero_le _) ?_
  · simp (maxSteps := 4000000) only [go_sem]
    refine weak_of [48] ?_ ?_ rfl rfl <;> simp [lessT, lessM, lessB, AV.less]
    all_goals first | done | rfl
  · intro i hi
    simp (maxSteps := 4000000) only [go_sem]
    repeat (first | refine walkL_seq ?_ | refine walkL_skip ?_ | refine walkL_block ?_ | (refine walkL_region fun K hK => ?_; simp (maxSteps := 4000000) only [go_sem]; refine hK _ ?_; clear hK K) | refine walkL_nil ?_ | refine walkL_ret ?_ | refine walkL_exit ?_ | refine blockA_here ?_ | refine blockA_other rfl ?_ | refine blockA_ret ?_ | refine blockA_normal ?_ | refine thenA_ret ?_ | refine thenA_exit ?_ | refine thenA_normal ?_)
    refine walkL_cond rfl (fun hb => ?_) (fun hb => ?_)
    · have hlt : i < F.length := by simpa using hb
      have hw : IntKind.i64.wrap ((i : Int) + 1) = ((i + 1 : Nat) : Int) := by rw [wr_small (by omega)]; simp
      obtain ⟨l, hl⟩ : ∃ l, F[i]? = some l := ⟨_, List.getElem?_eq_getElem hlt⟩
      have hll := hg.len l (List.mem_of_getElem? hl)
      have g1 := scenRows_at hl
      have htk : F.take (i + 1) = F.take i ++ [l] := by rw [List.take_add_one, hl]; rfl
      have hp := possFrom_push seen l (F.take i) 0
      have htl : (F.take i).length = i := by simp; omega
      rw [← htk, htl, Nat.zero_add] at hp
      have hpl := possFrom_len seen (F.take i) 0
      rw [htl] at hpl
      have hn1 : (numsOf (possFrom seen (F.take i) 0)).length + 1 ≤ 549755813888 := by simp [numsOf]; omega
      repeat (first | refine walkL_seq ?_ | refine walkL_skip ?_ | refine walkL_block ?_ | (refine walkL_region fun K hK => ?_; simp (maxSteps := 4000000) only [go_sem]; refine hK _ ?_; clear hK K) | refine walkL_nil ?_ | refine walkL_ret ?_ | refine walkL_exit ?_ | refine blockA_here ?_ | refine blockA_other rfl ?_ | refine blockA_ret ?_ | refine blockA_normal ?_ | refine thenA_ret ?_ | refine thenA_exit ?_ | refine thenA_normal ?_)
      refine walkL_loopS (fun (k : Nat) => [(8, .d (.i k)), (7, .d (.bool (agreesB (seen.take k) l)))]) (fun _ => []) (fun k => k ≤ seen.length) (fun k => seen.length - k) 0 ?_ (Nat.zero_le _) ?_
      · simp (maxSteps := 4000000) only [go_sem]
        refine weak_of [] ?_ ?_ rfl rfl <;> simp [lessT, lessM, lessB, AV.less]
        all_goals first | done | rfl
      · intro k hk
        simp (maxSteps := 4000000) only [go_sem]
        repeat (first | refine walkL_seq ?_ | refine walkL_skip ?_ | refine walkL_block ?_ | (refine walkL_region fun K hK => ?_; simp (maxSteps := 4000000) only [go_sem]; refine hK _ ?_; clear hK K) | refine walkL_nil ?_ | refine walkL_ret ?_ | refine walkL_exit ?_ | refine blockA_here ?_ | refine blockA_other rfl ?_ | refine blockA_ret ?_ | refine blockA_normal ?_ | refine thenA_ret ?_ | refine thenA_exit ?_ | refine thenA_normal ?_)
        refine walkL_cond rfl (fun hb => ?_) (fun hb => ?_)
        · have hltk : k < seen.length := by simpa using hb
          have hwk : IntKind.i64.wrap ((k : Int) + 1) = ((k + 1 : Nat) : Int) := by rw [wr_small (by omega)]; simp
          obtain ⟨s, hsk⟩ : ∃ s, seen[k]? = some s := ⟨_, List.getElem?_eq_getElem hltk⟩
          have gs := sightRows_at hsk
          have hr := s1 s (List.mem_of_getElem? hsk)
          have gr := hourRows_at (hourAt_get (l := l) (i := s.hour) ⟨hr.1, by omega⟩)
          have h90 := f90 s.sky (hourAt l s.hour)
          rw [Sky.row, Hour.row] at h90
          have hnx : agreesB (seen.take (k + 1)) l = (agreesB (seen.take k) l && insideB s.sky (hourAt l s.hour)) := by
            rw [List.take_add_one, hsk]; simp [agreesB]
          cases hq : agreesB (seen.take k) l
          · rw [hq, Bool.false_and] at hnx
            repeat (first | refine walkL_true rfl ?_ | refine walkL_false rfl ?_ | refine walkL_seq ?_ | refine walkL_skip ?_ | refine walkL_block ?_ | (refine walkL_region fun K hK => ?_; simp (maxSteps := 4000000) only [go_sem, hwk]; refine hK _ ?_; clear hK K) | (refine walkL_drawn (by kernel_rfl) (by kernel_rfl) fun K hK => ?_; simp (maxSteps := 4000000) only [go_sem, hwk]; refine ⟨by kernel_rfl, hK _ ?_⟩; clear hK K) | refine walkL_nil ?_ | refine walkL_ret ?_ | refine walkL_exit ?_ | refine blockA_here ?_ | refine blockA_other rfl ?_ | refine blockA_ret ?_ | refine blockA_normal ?_ | refine thenA_ret ?_ | refine thenA_exit ?_ | refine thenA_normal ?_)
            refine ⟨rfl, k + 1, ?_, hltk, by omega⟩
            rw [hnx]
            refine weak_of [] ?_ ?_ rfl rfl <;> simp [lessT, lessM, lessB, AV.less]
          · rw [hq, Bool.true_and] at hnx
            repeat (first | refine walkL_true rfl ?_ | refine walkL_false rfl ?_ | refine walkL_seq ?_ | refine walkL_skip ?_ | refine walkL_block ?_ | (refine walkL_region fun K hK => ?_; simp (maxSteps := 4000000) only [go_sem, gs, g1, gr, hr.1, Sight.row, Hour.row, hwk]; (repeat (first | (refine ⟨_, .lent (hf := h90) (hd := rfl) (hr := rfl), ?_⟩; simp (maxSteps := 4000000) only [go_sem, gs, g1, gr, hr.1, Sight.row, Hour.row, hwk]) | (refine ⟨_, .given (hf := h90) (hd := rfl) (ha := rfl), ?_⟩; simp (maxSteps := 4000000) only [go_sem, gs, g1, gr, hr.1, Sight.row, Hour.row, hwk]))); refine hK _ ?_; clear hK K) | (refine walkL_drawn (by kernel_rfl) (by kernel_rfl) fun K hK => ?_; simp (maxSteps := 4000000) only [go_sem, gs, g1, gr, hr.1, Sight.row, Hour.row, hwk]; (repeat (first | (refine ⟨_, .fn (hf := h90) (hd := rfl) (hr := .inl rfl), ?_⟩; simp (maxSteps := 4000000) only [go_sem, gs, g1, gr, hr.1, Sight.row, Hour.row, hwk]))); refine ⟨by kernel_rfl, hK _ ?_⟩; clear hK K) | refine walkL_nil ?_ | refine walkL_ret ?_ | refine walkL_exit ?_ | refine blockA_here ?_ | refine blockA_other rfl ?_ | refine blockA_ret ?_ | refine blockA_normal ?_ | refine thenA_ret ?_ | refine thenA_exit ?_ | refine thenA_normal ?_)
            refine ⟨rfl, k + 1, ?_, hltk, by omega⟩
            rw [hnx]
            refine weak_of [] ?_ ?_ rfl rfl <;> simp [lessT, lessM, lessB, AV.less]
        · have he : k = seen.length := by (have : ¬ k < seen.length := by simpa using hb); omega
          subst he
          rw [List.take_length]
          cases hag : agreesB seen l
          · rw [hag, if_neg (by decide), List.append_nil] at hp
            repeat (first | refine walkL_true rfl ?_ | refine walkL_false rfl ?_ | refine walkL_seq ?_ | refine walkL_skip ?_ | refine walkL_block ?_ | (refine walkL_region fun K hK => ?_; simp (maxSteps := 4000000) only [go_sem, hw]; refine hK _ ?_; clear hK K) | refine walkL_nil ?_ | refine walkL_ret ?_ | refine walkL_exit ?_ | refine blockA_here ?_ | refine blockA_other rfl ?_ | refine blockA_ret ?_ | refine blockA_normal ?_ | refine thenA_ret ?_ | refine thenA_exit ?_ | refine thenA_normal ?_)
            refine ⟨rfl, i + 1, ?_, hlt, by omega⟩
            rw [hp]
            refine weak_of [] ?_ ?_ rfl rfl <;> simp [lessT, lessM, lessB, AV.less]
          · rw [hag, if_pos rfl] at hp
            repeat (first | refine walkL_true rfl ?_ | refine walkL_false rfl ?_ | refine walkL_seq ?_ | refine walkL_skip ?_ | refine walkL_block ?_ | (refine walkL_region fun K hK => ?_; simp (maxSteps := 4000000) only [go_sem, hn1, hw]; refine hK _ ?_; clear hK K) | refine walkL_nil ?_ | refine walkL_ret ?_ | refine walkL_exit ?_ | refine blockA_here ?_ | refine blockA_other rfl ?_ | refine blockA_ret ?_ | refine blockA_normal ?_ | refine thenA_ret ?_ | refine thenA_exit ?_ | refine thenA_normal ?_)
            refine ⟨rfl, i + 1, ?_, hlt, by omega⟩
            rw [hp, nums_push]
            refine weak_of [] ?_ ?_ rfl rfl <;> simp [lessT, lessM, lessB, AV.less]
            all_goals first | done | rfl
    · have he : i = F.length := by (have : ¬ i < F.length := by simpa using hb); omega
      subst he
      rw [List.take_length]
      repeat (first | refine walkL_seq ?_ | refine walkL_skip ?_ | refine walkL_block ?_ | (refine walkL_region fun K hK => ?_; simp (maxSteps := 4000000) only [go_sem]; refine hK _ ?_; clear hK K) | refine walkL_nil ?_ | refine walkL_ret ?_ | refine walkL_exit ?_ | refine blockA_here ?_ | refine blockA_other rfl ?_ | refine blockA_ret ?_ | refine blockA_normal ?_ | refine thenA_ret ?_ | refine thenA_exit ?_ | refine thenA_normal ?_)
      simp (maxSteps := 4000000) only [go_sem]
      rfl

theorem f33 (F : List (List Hour)) (seen : List Sight) (hs : ForeSmall F) (hsl : seen.length < 2 ^ 30) :
    Fn Try.prog 33 [.agg [.sl (scenRows F)], .sl (sightRows seen)] (.tup [.sl (intRows (if lookF F seen 0 true = 0 then numsOf (possL F seen) else [])), .i (lookF F seen 0 true)]) := by
  have h68 := f68 F seen hs hsl
  cases hb : badF F
  · have hg := fore_iff.1 hb
    cases hsi : sightsB ((hd0 F).length : Int) seen
    · have e1 : seenF F seen = 51 := by simp [seenF, hb, hsi]
      have e2 : lookF F seen 0 true = 51 := by simp [lookF, hb, hsi]
      rw [e1] at h68
      rw [e2, if_neg (by decide)]
      refine fn_walk 21 Try.call33 Try.func33 rfl (by decide) fun J => ?_
      simp (maxSteps := 4000000) only [go_sem, St.start, Try.ntmps33, Try.results33]
      repeat (first | refine walkL_true rfl ?_ | refine walkL_false rfl ?_ | refine walkL_seq ?_ | refine walkL_skip ?_ | refine walkL_block ?_ | (refine walkL_region fun K hK => ?_; simp (maxSteps := 4000000) only [go_sem]; (repeat (first | (refine ⟨_, .lent (hf := h68) (hd := rfl) (hr := rfl), ?_⟩; simp (maxSteps := 4000000) only [go_sem]) | (refine ⟨_, .given (hf := h68) (hd := rfl) (ha := rfl), ?_⟩; simp (maxSteps := 4000000) only [go_sem]))); refine hK _ ?_; clear hK K) | refine walkL_nil ?_ | refine walkL_ret ?_ | refine walkL_exit ?_ | refine blockA_here ?_ | refine blockA_other rfl ?_ | refine blockA_ret ?_ | refine blockA_normal ?_ | refine thenA_ret ?_ | refine thenA_exit ?_ | refine thenA_normal ?_)
      simp (maxSteps := 4000000) only [go_sem]
      try rfl
    · have e1 : seenF F seen = 0 := by simp [seenF, hb, hsi]
      rw [e1] at h68
      have h69 := f69 F seen hg hsi
      cases hp : possL F seen with
      | nil =>
        have e2 : lookF F seen 0 true = 3 := by simp [lookF, hb, hsi, hp]
        rw [hp] at h69
        rw [e2, if_neg (by decide)]
        have e3 : intRows (numsOf []) = [] := rfl
        rw [e3] at h69
        refine fn_walk 21 Try.call33 Try.func33 rfl (by decide) fun J => ?_
        simp (maxSteps := 4000000) only [go_sem, St.start, Try.ntmps33, Try.results33]
        repeat (first | refine walkL_true rfl ?_ | refine walkL_false rfl ?_ | refine walkL_seq ?_ | refine walkL_skip ?_ | refine walkL_block ?_ | (refine walkL_region fun K hK => ?_; simp (maxSteps := 4000000) only [go_sem]; (repeat (first | (refine ⟨_, .lent (hf := h68) (hd := rfl) (hr := rfl), ?_⟩; simp (maxSteps := 4000000) only [go_sem]) | (refine ⟨_, .lent (hf := h69) (hd := rfl) (hr := rfl), ?_⟩; simp (maxSteps := 4000000) only [go_sem]) | (refine ⟨_, .given (hf := h68) (hd := rfl) (ha := rfl), ?_⟩; simp (maxSteps := 4000000) only [go_sem]) | (refine ⟨_, .given (hf := h69) (hd := rfl) (ha := rfl), ?_⟩; simp (maxSteps := 4000000) only [go_sem]))); refine hK _ ?_; clear hK K) | refine walkL_nil ?_ | refine walkL_ret ?_ | refine walkL_exit ?_ | refine blockA_here ?_ | refine blockA_other rfl ?_ | refine blockA_ret ?_ | refine blockA_normal ?_ | refine thenA_ret ?_ | refine thenA_exit ?_ | refine thenA_normal ?_)
        simp (maxSteps := 4000000) only [go_sem]
        try rfl
      | cons y ys =>
        have e2 : lookF F seen 0 true = 0 := by simp [lookF, hb, hsi, hp]
        rw [hp] at h69
        rw [e2, if_pos rfl]
        have hz : ((((y :: ys).length : Nat) : Int) == 0) = false := by simp; omega
        refine fn_walk 21 Try.call33 Try.func33 rfl (by decide) fun J => ?_
        simp (maxSteps := 4000000) only [go_sem, St.start, Try.ntmps33, Try.results33]
        repeat (first | refine walkL_true rfl ?_ | refine walkL_false rfl ?_ | refine walkL_seq ?_ | refine walkL_skip ?_ | refine walkL_block ?_ | (refine walkL_region fun K hK => ?_; simp (maxSteps := 4000000) only [go_sem, hz, nums_len]; (repeat (first | (refine ⟨_, .lent (hf := h68) (hd := rfl) (hr := rfl), ?_⟩; simp (maxSteps := 4000000) only [go_sem, hz, nums_len]) | (refine ⟨_, .lent (hf := h69) (hd := rfl) (hr := rfl), ?_⟩; simp (maxSteps := 4000000) only [go_sem, hz, nums_len]) | (refine ⟨_, .given (hf := h68) (hd := rfl) (ha := rfl), ?_⟩; simp (maxSteps := 4000000) only [go_sem, hz, nums_len]) | (refine ⟨_, .given (hf := h69) (hd := rfl) (ha := rfl), ?_⟩; simp (maxSteps := 4000000) only [go_sem, hz, nums_len]))); refine hK _ ?_; clear hK K) | refine walkL_nil ?_ | refine walkL_ret ?_ | refine walkL_exit ?_ | refine blockA_here ?_ | refine blockA_other rfl ?_ | refine blockA_ret ?_ | refine blockA_normal ?_ | refine thenA_ret ?_ | refine thenA_exit ?_ | refine thenA_normal ?_)
        simp (maxSteps := 4000000) only [go_sem]
  · have e1 : seenF F seen = 50 := by simp [seenF, hb]
    have e2 : lookF F seen 0 true = 50 := by simp [lookF, hb]
    rw [e1] at h68
    rw [e2, if_neg (by decide)]
    refine fn_walk 21 Try.call33 Try.func33 rfl (by decide) fun J => ?_
    simp (maxSteps := 4000000) only [go_sem, St.start, Try.ntmps33, Try.results33]
    repeat (first | refine walkL_true rfl ?_ | refine walkL_false rfl ?_ | refine walkL_seq ?_ | refine walkL_skip ?_ | refine walkL_block ?_ | (refine walkL_region fun K hK => ?_; simp (maxSteps := 4000000) only [go_sem]; (repeat (first | (refine ⟨_, .lent (hf := h68) (hd := rfl) (hr := rfl), ?_⟩; simp (maxSteps := 4000000) only [go_sem]) | (refine ⟨_, .given (hf := h68) (hd := rfl) (ha := rfl), ?_⟩; simp (maxSteps := 4000000) only [go_sem]))); refine hK _ ?_; clear hK K) | refine walkL_nil ?_ | refine walkL_ret ?_ | refine walkL_exit ?_ | refine blockA_here ?_ | refine blockA_other rfl ?_ | refine blockA_ret ?_ | refine blockA_normal ?_ | refine thenA_ret ?_ | refine thenA_exit ?_ | refine thenA_normal ?_)
    simp (maxSteps := 4000000) only [go_sem]
    try rfl

/-! ### The document's functions of layer 10 -/

theorem f50 (n lo hi : Int) : Fn Try.prog 50 [.i n, .i lo, .i hi] (.bool (withinB n lo hi)) := by
  refine fn_walk 15 Try.call50 Try.func50 rfl (by decide) fun J => ?_
  simp (maxSteps := 4000000) only [go_sem, St.start, Try.ntmps50, Try.results50]
  by_cases h : lo ≤ n
  · repeat (first | refine walkL_seq ?_ | refine walkL_skip ?_ | refine walkL_block ?_ | (refine walkL_region fun K hK => ?_; simp (maxSteps := 4000000) only [go_sem, h, ge_iff_le]; refine hK _ ?_; clear hK K) | refine walkL_nil ?_ | refine walkL_ret ?_ | refine walkL_exit ?_ | refine blockA_here ?_ | refine blockA_other rfl ?_ | refine blockA_ret ?_ | refine blockA_normal ?_ | refine thenA_ret ?_ | refine thenA_exit ?_ | refine thenA_normal ?_)
    simp (maxSteps := 4000000) only [go_sem, withinB, h]
  · repeat (first | refine walkL_seq ?_ | refine walkL_skip ?_ | refine walkL_block ?_ | (refine walkL_region fun K hK => ?_; simp (maxSteps := 4000000) only [go_sem, h, ge_iff_le]; refine hK _ ?_; clear hK K) | refine walkL_nil ?_ | refine walkL_ret ?_ | refine walkL_exit ?_ | refine blockA_here ?_ | refine blockA_other rfl ?_ | refine blockA_ret ?_ | refine blockA_normal ?_ | refine thenA_ret ?_ | refine thenA_exit ?_ | refine thenA_normal ?_)
    simp (maxSteps := 4000000) only [go_sem, withinB, h]

theorem any_false_get {α : Type} {l : List α} {q : α → Bool} (h : l.any q = false) : ∀ x ∈ l, q x = false := by
  intro x hx
  cases hq : q x with
  | false => rfl
  | true => rw [List.any_eq_true.2 ⟨x, hx, hq⟩] at h; cases h

theorem f72 (l : List Int) (H : Int) (hl : l.length < 2 ^ 30) : Fn Try.prog 72 [.sl (intRows l), .i H] (.bool (powerB H l)) := by
  refine fn_walk 22 Try.call72 Try.func72 rfl (by decide) fun J => ?_
  simp (maxSteps := 4000000) only [go_sem, St.start, Try.ntmps72, Try.results72]
  repeat (first | refine walkL_seq ?_ | refine walkL_skip ?_ | refine walkL_block ?_ | (refine walkL_region fun K hK => ?_; simp (maxSteps := 4000000) only [go_sem]; refine hK _ ?_; clear hK K) | refine walkL_nil ?_ | refine walkL_ret ?_ | refine walkL_exit ?_ | refine blockA_here ?_ | refine blockA_other rfl ?_ | refine blockA_ret ?_ | refine blockA_normal ?_ | refine thenA_ret ?_ | refine thenA_exit ?_ | refine thenA_normal ?_)
  refine walkL_loopS (fun (i : Nat) => [(5, .d (.i i))]) (fun _ => []) (fun i => i ≤ l.length ∧ (l.take i).any (fun n => !withinB n 0 10000) = false) (fun i => l.length - i) 0 ?_ ⟨Nat.zero_le _, rfl⟩ ?_
  · simp (maxSteps := 4000000) only [go_sem]
    refine weak_of [] ?_ ?_ rfl rfl <;> simp [lessT, lessM, lessB, AV.less]
  · intro i ⟨hi, hall⟩
    simp (maxSteps := 4000000) only [go_sem]
    repeat (first | refine walkL_seq ?_ | refine walkL_skip ?_ | refine walkL_block ?_ | (refine walkL_region fun K hK => ?_; simp (maxSteps := 4000000) only [go_sem]; refine hK _ ?_; clear hK K) | refine walkL_nil ?_ | refine walkL_ret ?_ | refine walkL_exit ?_ | refine blockA_here ?_ | refine blockA_other rfl ?_ | refine blockA_ret ?_ | refine blockA_normal ?_ | refine thenA_ret ?_ | refine thenA_exit ?_ | refine thenA_normal ?_)
    refine walkL_cond rfl (fun hb => ?_) (fun hb => ?_)
    · have hlt : i < l.length := by simpa using hb
      have hw : IntKind.i64.wrap ((i : Int) + 1) = ((i + 1 : Nat) : Int) := by rw [wr_small (by omega)]; simp
      obtain ⟨x, hx⟩ : ∃ x, l[i]? = some x := ⟨_, List.getElem?_eq_getElem hlt⟩
      have g1 := intRows_at hx
      have h50 := f50 x 0 10000
      cases hq : withinB x 0 10000
      · rw [hq] at h50
        have e : powerB H l = false := by
          have : (l.any fun n => !withinB n 0 10000) = true := any_of_get hx (by rw [hq]; rfl)
          simp [powerB, this]
        repeat (first | refine walkL_true rfl ?_ | refine walkL_false rfl ?_ | refine walkL_seq ?_ | refine walkL_skip ?_ | refine walkL_block ?_ | (refine walkL_region fun K hK => ?_; simp (maxSteps := 4000000) only [go_sem, g1]; (repeat (first | (refine ⟨_, .lent (hf := h50) (hd := rfl) (hr := rfl), ?_⟩; simp (maxSteps := 4000000) only [go_sem, g1]) | (refine ⟨_, .given (hf := h50) (hd := rfl) (ha := rfl), ?_⟩; simp (maxSteps := 4000000) only [go_sem, g1]))); refine hK _ ?_; clear hK K) | refine walkL_nil ?_ | refine walkL_ret ?_ | refine walkL_exit ?_ | refine blockA_here ?_ | refine blockA_other rfl ?_ | refine blockA_ret ?_ | refine blockA_normal ?_ | refine thenA_ret ?_ | refine thenA_exit ?_ | refine thenA_normal ?_)
        simp (maxSteps := 4000000) only [go_sem, e]
      · rw [hq] at h50
        repeat (first | refine walkL_true rfl ?_ | refine walkL_false rfl ?_ | refine walkL_seq ?_ | refine walkL_skip ?_ | refine walkL_block ?_ | (refine walkL_region fun K hK => ?_; simp (maxSteps := 4000000) only [go_sem, g1, hw]; (repeat (first | (refine ⟨_, .lent (hf := h50) (hd := rfl) (hr := rfl), ?_⟩; simp (maxSteps := 4000000) only [go_sem, g1, hw]) | (refine ⟨_, .given (hf := h50) (hd := rfl) (ha := rfl), ?_⟩; simp (maxSteps := 4000000) only [go_sem, g1, hw]))); refine hK _ ?_; clear hK K) | refine walkL_nil ?_ | refine walkL_ret ?_ | refine walkL_exit ?_ | refine blockA_here ?_ | refine blockA_other rfl ?_ | refine blockA_ret ?_ | refine blockA_normal ?_ | refine thenA_ret ?_ | refine thenA_exit ?_ | refine thenA_normal ?_)
        refine ⟨rfl, i + 1, ?_, ⟨hlt, any_take_succ hx hall (by rw [hq]; rfl)⟩, by omega⟩
        refine weak_of [] ?_ ?_ rfl rfl <;> simp [lessT, lessM, lessB, AV.less]
    · have he : i = l.length := by (have : ¬ i < l.length := by simpa using hb); omega
      subst he
      rw [List.take_length] at hall
      repeat (first | refine walkL_seq ?_ | refine walkL_skip ?_ | refine walkL_block ?_ | (refine walkL_region fun K hK => ?_; simp (maxSteps := 4000000) only [go_sem]; refine hK _ ?_; clear hK K) | refine walkL_nil ?_ | refine walkL_ret ?_ | refine walkL_exit ?_ | refine blockA_here ?_ | refine blockA_other rfl ?_ | refine blockA_ret ?_ | refine blockA_normal ?_ | refine thenA_ret ?_ | refine thenA_exit ?_ | refine thenA_normal ?_)
      simp (maxSteps := 4000000) only [go_sem, powerB, hall, Bool.not_false, Bool.and_true]

/-- The error of a plant. -/
def plantE (p : Plant) : Int := if lookF p.scen p.seen 0 true = 0 then (if plantBad p (hoursOf p) then 100 else 0) else lookF p.scen p.seen 0 true

theorem openE_nil (p : Plant) : openE p [] = plantE p := by simp [openE, plantE]

theorem f36 (p : Plant) (hs : PlantSmall p) : Fn Try.prog 36 [.agg p.cells] (.i (plantE p)) := by
  have h33 := f33 p.scen p.seen hs.fore hs.seen
  by_cases hlk : lookF p.scen p.seen 0 true = 0
  · rw [if_pos hlk, hlk] at h33
    obtain ⟨hg, hsi, hpn⟩ := look_zero hlk
    have hF := hg.scen
    have hH := hg.hours
    have h0 : p.scen[0]? = some (hd0 p.scen) := headD_get (by omega)
    have h71 := f71 p.scen _ h0
    have e : plantE p = if plantBad p (hoursOf p) then 100 else 0 := by rw [plantE, if_pos hlk]
    rw [e]
    have hhr : ((hd0 p.scen).length : Int) = hoursOf p := rfl
    rw [hhr] at h71
    obtain ⟨H, hHH⟩ : ∃ H, H = hoursOf p := ⟨_, rfl⟩
    rw [← hHH] at h71 ⊢
    have h72a := f72 p.sun H hs.sun
    have h72b := f72 p.needs H hs.needs
    have k1 := f50 p.gain 0 100
    have k2 := f50 p.start 0 p.stop
    have k4 := f50 p.capacity 0 100000
    have k5 := f50 p.charge 0 p.capacity
    have k6 := f50 p.reserve 0 p.capacity
    have k7 := f50 p.gas 0 10000
    have k8 := f50 p.rate 0 10
    have k9 := f50 p.units 0 200
    refine fn_walk 92 Try.call36 Try.func36 rfl (by decide) fun J => ?_
    simp (maxSteps := 4000000) only [go_sem, St.start, Try.ntmps36, Try.results36, Plant.cells]
    repeat (first | refine walkL_true rfl ?_ | refine walkL_false rfl ?_ | refine walkL_seq ?_ | refine walkL_skip ?_ | refine walkL_block ?_ | (refine walkL_region fun K hK => ?_; simp (maxSteps := 4000000) only [go_sem]; (repeat (first | (refine ⟨_, .lent (hf := h33) (hd := rfl) (hr := rfl), ?_⟩; simp (maxSteps := 4000000) only [go_sem]) | (refine ⟨_, .lent (hf := h71) (hd := rfl) (hr := rfl), ?_⟩; simp (maxSteps := 4000000) only [go_sem]) | (refine ⟨_, .given (hf := h33) (hd := rfl) (ha := rfl), ?_⟩; simp (maxSteps := 4000000) only [go_sem]) | (refine ⟨_, .given (hf := h71) (hd := rfl) (ha := rfl), ?_⟩; simp (maxSteps := 4000000) only [go_sem]))); refine hK _ ?_; clear hK K) | refine walkL_nil ?_ | refine walkL_ret ?_ | refine walkL_exit ?_ | refine blockA_here ?_ | refine blockA_other rfl ?_ | refine blockA_ret ?_ | refine blockA_normal ?_ | refine thenA_ret ?_ | refine thenA_exit ?_ | refine thenA_normal ?_)
    cases q1 : powerB H p.sun
    · rw [q1] at h72a
      repeat (first | refine walkL_true rfl ?_ | refine walkL_false rfl ?_ | refine walkL_seq ?_ | refine walkL_skip ?_ | refine walkL_block ?_ | (refine walkL_region fun K hK => ?_; simp (maxSteps := 4000000) only [go_sem]; (repeat (first | (refine ⟨_, .lent (hf := h72a) (hd := rfl) (hr := rfl), ?_⟩; simp (maxSteps := 4000000) only [go_sem]) | (refine ⟨_, .given (hf := h72a) (hd := rfl) (ha := rfl), ?_⟩; simp (maxSteps := 4000000) only [go_sem]))); refine hK _ ?_; clear hK K) | refine walkL_nil ?_ | refine walkL_ret ?_ | refine walkL_exit ?_ | refine blockA_here ?_ | refine blockA_other rfl ?_ | refine blockA_ret ?_ | refine blockA_normal ?_ | refine thenA_ret ?_ | refine thenA_exit ?_ | refine thenA_normal ?_)
      simp (maxSteps := 4000000) only [go_sem, plantBad, q1, Bool.not_false, Bool.true_or, if_true]
    rw [q1] at h72a
    cases q2 : powerB H p.needs
    · rw [q2] at h72b
      repeat (first | refine walkL_true rfl ?_ | refine walkL_false rfl ?_ | refine walkL_seq ?_ | refine walkL_skip ?_ | refine walkL_block ?_ | (refine walkL_region fun K hK => ?_; simp (maxSteps := 4000000) only [go_sem]; (repeat (first | (refine ⟨_, .lent (hf := h72a) (hd := rfl) (hr := rfl), ?_⟩; simp (maxSteps := 4000000) only [go_sem]) | (refine ⟨_, .lent (hf := h72b) (hd := rfl) (hr := rfl), ?_⟩; simp (maxSteps := 4000000) only [go_sem]) | (refine ⟨_, .given (hf := h72a) (hd := rfl) (ha := rfl), ?_⟩; simp (maxSteps := 4000000) only [go_sem]) | (refine ⟨_, .given (hf := h72b) (hd := rfl) (ha := rfl), ?_⟩; simp (maxSteps := 4000000) only [go_sem]))); refine hK _ ?_; clear hK K) | refine walkL_nil ?_ | refine walkL_ret ?_ | refine walkL_exit ?_ | refine blockA_here ?_ | refine blockA_other rfl ?_ | refine blockA_ret ?_ | refine blockA_normal ?_ | refine thenA_ret ?_ | refine thenA_exit ?_ | refine thenA_normal ?_)
      simp (maxSteps := 4000000) only [go_sem, plantBad, q1, q2, Bool.not_false, Bool.not_true, Bool.false_or, Bool.true_or, if_true]
    rw [q2] at h72b
    cases q3 : withinB p.gain 0 100
    · rw [q3] at k1
      repeat (first | refine walkL_true rfl ?_ | refine walkL_false rfl ?_ | refine walkL_seq ?_ | refine walkL_skip ?_ | refine walkL_block ?_ | (refine walkL_region fun K hK => ?_; simp (maxSteps := 4000000) only [go_sem]; (repeat (first | (refine ⟨_, .lent (hf := h72a) (hd := rfl) (hr := rfl), ?_⟩; simp (maxSteps := 4000000) only [go_sem]) | (refine ⟨_, .lent (hf := h72b) (hd := rfl) (hr := rfl), ?_⟩; simp (maxSteps := 4000000) only [go_sem]) | (refine ⟨_, .lent (hf := k1) (hd := rfl) (hr := rfl), ?_⟩; simp (maxSteps := 4000000) only [go_sem]) | (refine ⟨_, .given (hf := h72a) (hd := rfl) (ha := rfl), ?_⟩; simp (maxSteps := 4000000) only [go_sem]) | (refine ⟨_, .given (hf := h72b) (hd := rfl) (ha := rfl), ?_⟩; simp (maxSteps := 4000000) only [go_sem]) | (refine ⟨_, .given (hf := k1) (hd := rfl) (ha := rfl), ?_⟩; simp (maxSteps := 4000000) only [go_sem]))); refine hK _ ?_; clear hK K) | refine walkL_nil ?_ | refine walkL_ret ?_ | refine walkL_exit ?_ | refine blockA_here ?_ | refine blockA_other rfl ?_ | refine blockA_ret ?_ | refine blockA_normal ?_ | refine thenA_ret ?_ | refine thenA_exit ?_ | refine thenA_normal ?_)
      simp (maxSteps := 4000000) only [go_sem, plantBad, q1, q2, q3, Bool.not_false, Bool.not_true, Bool.false_or, Bool.true_or, if_true]
    rw [q3] at k1
    cases q4 : withinB p.start 0 p.stop
    · rw [q4] at k2
      repeat (first | refine walkL_true rfl ?_ | refine walkL_false rfl ?_ | refine walkL_seq ?_ | refine walkL_skip ?_ | refine walkL_block ?_ | (refine walkL_region fun K hK => ?_; simp (maxSteps := 4000000) only [go_sem]; (repeat (first | (refine ⟨_, .lent (hf := h72a) (hd := rfl) (hr := rfl), ?_⟩; simp (maxSteps := 4000000) only [go_sem]) | (refine ⟨_, .lent (hf := h72b) (hd := rfl) (hr := rfl), ?_⟩; simp (maxSteps := 4000000) only [go_sem]) | (refine ⟨_, .lent (hf := k1) (hd := rfl) (hr := rfl), ?_⟩; simp (maxSteps := 4000000) only [go_sem]) | (refine ⟨_, .lent (hf := k2) (hd := rfl) (hr := rfl), ?_⟩; simp (maxSteps := 4000000) only [go_sem]) | (refine ⟨_, .given (hf := h72a) (hd := rfl) (ha := rfl), ?_⟩; simp (maxSteps := 4000000) only [go_sem]) | (refine ⟨_, .given (hf := h72b) (hd := rfl) (ha := rfl), ?_⟩; simp (maxSteps := 4000000) only [go_sem]) | (refine ⟨_, .given (hf := k1) (hd := rfl) (ha := rfl), ?_⟩; simp (maxSteps := 4000000) only [go_sem]) | (refine ⟨_, .given (hf := k2) (hd := rfl) (ha := rfl), ?_⟩; simp (maxSteps := 4000000) only [go_sem]))); refine hK _ ?_; clear hK K) | refine walkL_nil ?_ | refine walkL_ret ?_ | refine walkL_exit ?_ | refine blockA_here ?_ | refine blockA_other rfl ?_ | refine blockA_ret ?_ | refine blockA_normal ?_ | refine thenA_ret ?_ | refine thenA_exit ?_ | refine thenA_normal ?_)
      simp (maxSteps := 4000000) only [go_sem, plantBad, q1, q2, q3, q4, Bool.not_false, Bool.not_true, Bool.false_or, Bool.true_or, if_true]
    rw [q4] at k2
    by_cases q5' : p.stop > 200
    · have q5 : decide (p.stop > 200) = true := decide_eq_true q5'
      repeat (first | refine walkL_true rfl ?_ | refine walkL_false rfl ?_ | refine walkL_seq ?_ | refine walkL_skip ?_ | refine walkL_block ?_ | (refine walkL_region fun K hK => ?_; simp (maxSteps := 4000000) only [go_sem, q5]; (repeat (first | (refine ⟨_, .lent (hf := h72a) (hd := rfl) (hr := rfl), ?_⟩; simp (maxSteps := 4000000) only [go_sem, q5]) | (refine ⟨_, .lent (hf := h72b) (hd := rfl) (hr := rfl), ?_⟩; simp (maxSteps := 4000000) only [go_sem, q5]) | (refine ⟨_, .lent (hf := k1) (hd := rfl) (hr := rfl), ?_⟩; simp (maxSteps := 4000000) only [go_sem, q5]) | (refine ⟨_, .lent (hf := k2) (hd := rfl) (hr := rfl), ?_⟩; simp (maxSteps := 4000000) only [go_sem, q5]) | (refine ⟨_, .given (hf := h72a) (hd := rfl) (ha := rfl), ?_⟩; simp (maxSteps := 4000000) only [go_sem, q5]) | (refine ⟨_, .given (hf := h72b) (hd := rfl) (ha := rfl), ?_⟩; simp (maxSteps := 4000000) only [go_sem, q5]) | (refine ⟨_, .given (hf := k1) (hd := rfl) (ha := rfl), ?_⟩; simp (maxSteps := 4000000) only [go_sem, q5]) | (refine ⟨_, .given (hf := k2) (hd := rfl) (ha := rfl), ?_⟩; simp (maxSteps := 4000000) only [go_sem, q5]))); refine hK _ ?_; clear hK K) | refine walkL_nil ?_ | refine walkL_ret ?_ | refine walkL_exit ?_ | refine blockA_here ?_ | refine blockA_other rfl ?_ | refine blockA_ret ?_ | refine blockA_normal ?_ | refine thenA_ret ?_ | refine thenA_exit ?_ | refine thenA_normal ?_)
      simp (maxSteps := 4000000) only [go_sem, plantBad, q1, q2, q3, q4, q5, Bool.not_false, Bool.not_true, Bool.false_or, Bool.true_or, if_true]
    have q5 : decide (p.stop > 200) = false := decide_eq_false q5'
    repeat (first | refine walkL_true rfl ?_ | refine walkL_false rfl ?_ | refine walkL_seq ?_ | refine walkL_skip ?_ | refine walkL_block ?_ | (refine walkL_region fun K hK => ?_; simp (maxSteps := 4000000) only [go_sem, q5]; (repeat (first | (refine ⟨_, .lent (hf := h72a) (hd := rfl) (hr := rfl), ?_⟩; simp (maxSteps := 4000000) only [go_sem, q5]) | (refine ⟨_, .lent (hf := h72b) (hd := rfl) (hr := rfl), ?_⟩; simp (maxSteps := 4000000) only [go_sem, q5]) | (refine ⟨_, .lent (hf := k1) (hd := rfl) (hr := rfl), ?_⟩; simp (maxSteps := 4000000) only [go_sem, q5]) | (refine ⟨_, .lent (hf := k2) (hd := rfl) (hr := rfl), ?_⟩; simp (maxSteps := 4000000) only [go_sem, q5]) | (refine ⟨_, .given (hf := h72a) (hd := rfl) (ha := rfl), ?_⟩; simp (maxSteps := 4000000) only [go_sem, q5]) | (refine ⟨_, .given (hf := h72b) (hd := rfl) (ha := rfl), ?_⟩; simp (maxSteps := 4000000) only [go_sem, q5]) | (refine ⟨_, .given (hf := k1) (hd := rfl) (ha := rfl), ?_⟩; simp (maxSteps := 4000000) only [go_sem, q5]) | (refine ⟨_, .given (hf := k2) (hd := rfl) (ha := rfl), ?_⟩; simp (maxSteps := 4000000) only [go_sem, q5]))); refine hK _ ?_; clear hK K) | refine walkL_nil ?_ | refine walkL_ret ?_ | refine walkL_exit ?_ | refine blockA_here ?_ | refine blockA_other rfl ?_ | refine blockA_ret ?_ | refine blockA_normal ?_ | refine thenA_ret ?_ | refine thenA_exit ?_ | refine thenA_normal ?_)
    cases q6 : withinB p.capacity 0 100000
    · rw [q6] at k4
      repeat (first | refine walkL_true rfl ?_ | refine walkL_false rfl ?_ | refine walkL_seq ?_ | refine walkL_skip ?_ | refine walkL_block ?_ | (refine walkL_region fun K hK => ?_; simp (maxSteps := 4000000) only [go_sem]; (repeat (first | (refine ⟨_, .lent (hf := k4) (hd := rfl) (hr := rfl), ?_⟩; simp (maxSteps := 4000000) only [go_sem]) | (refine ⟨_, .given (hf := k4) (hd := rfl) (ha := rfl), ?_⟩; simp (maxSteps := 4000000) only [go_sem]))); refine hK _ ?_; clear hK K) | refine walkL_nil ?_ | refine walkL_ret ?_ | refine walkL_exit ?_ | refine blockA_here ?_ | refine blockA_other rfl ?_ | refine blockA_ret ?_ | refine blockA_normal ?_ | refine thenA_ret ?_ | refine thenA_exit ?_ | refine thenA_normal ?_)
      simp (maxSteps := 4000000) only [go_sem, plantBad, q1, q2, q3, q4, q5, q6, Bool.not_false, Bool.not_true, Bool.false_or, Bool.true_or, if_true]
    rw [q6] at k4
    cases q7 : withinB p.charge 0 p.capacity
    · rw [q7] at k5
      repeat (first | refine walkL_true rfl ?_ | refine walkL_false rfl ?_ | refine walkL_seq ?_ | refine walkL_skip ?_ | refine walkL_block ?_ | (refine walkL_region fun K hK => ?_; simp (maxSteps := 4000000) only [go_sem]; (repeat (first | (refine ⟨_, .lent (hf := k4) (hd := rfl) (hr := rfl), ?_⟩; simp (maxSteps := 4000000) only [go_sem]) | (refine ⟨_, .lent (hf := k5) (hd := rfl) (hr := rfl), ?_⟩; simp (maxSteps := 4000000) only [go_sem]) | (refine ⟨_, .given (hf := k4) (hd := rfl) (ha := rfl), ?_⟩; simp (maxSteps := 4000000) only [go_sem]) | (refine ⟨_, .given (hf := k5) (hd := rfl) (ha := rfl), ?_⟩; simp (maxSteps := 4000000) only [go_sem]))); refine hK _ ?_; clear hK K) | refine walkL_nil ?_ | refine walkL_ret ?_ | refine walkL_exit ?_ | refine blockA_here ?_ | refine blockA_other rfl ?_ | refine blockA_ret ?_ | refine blockA_normal ?_ | refine thenA_ret ?_ | refine thenA_exit ?_ | refine thenA_normal ?_)
      simp (maxSteps := 4000000) only [go_sem, plantBad, q1, q2, q3, q4, q5, q6, q7, Bool.not_false, Bool.not_true, Bool.false_or, Bool.true_or, if_true]
    rw [q7] at k5
    cases q8 : withinB p.reserve 0 p.capacity
    · rw [q8] at k6
      repeat (first | refine walkL_true rfl ?_ | refine walkL_false rfl ?_ | refine walkL_seq ?_ | refine walkL_skip ?_ | refine walkL_block ?_ | (refine walkL_region fun K hK => ?_; simp (maxSteps := 4000000) only [go_sem]; (repeat (first | (refine ⟨_, .lent (hf := k4) (hd := rfl) (hr := rfl), ?_⟩; simp (maxSteps := 4000000) only [go_sem]) | (refine ⟨_, .lent (hf := k5) (hd := rfl) (hr := rfl), ?_⟩; simp (maxSteps := 4000000) only [go_sem]) | (refine ⟨_, .lent (hf := k6) (hd := rfl) (hr := rfl), ?_⟩; simp (maxSteps := 4000000) only [go_sem]) | (refine ⟨_, .given (hf := k4) (hd := rfl) (ha := rfl), ?_⟩; simp (maxSteps := 4000000) only [go_sem]) | (refine ⟨_, .given (hf := k5) (hd := rfl) (ha := rfl), ?_⟩; simp (maxSteps := 4000000) only [go_sem]) | (refine ⟨_, .given (hf := k6) (hd := rfl) (ha := rfl), ?_⟩; simp (maxSteps := 4000000) only [go_sem]))); refine hK _ ?_; clear hK K) | refine walkL_nil ?_ | refine walkL_ret ?_ | refine walkL_exit ?_ | refine blockA_here ?_ | refine blockA_other rfl ?_ | refine blockA_ret ?_ | refine blockA_normal ?_ | refine thenA_ret ?_ | refine thenA_exit ?_ | refine thenA_normal ?_)
      simp (maxSteps := 4000000) only [go_sem, plantBad, q1, q2, q3, q4, q5, q6, q7, q8, Bool.not_false, Bool.not_true, Bool.false_or, Bool.true_or, if_true]
    rw [q8] at k6
    cases q9 : withinB p.gas 0 10000
    · rw [q9] at k7
      repeat (first | refine walkL_true rfl ?_ | refine walkL_false rfl ?_ | refine walkL_seq ?_ | refine walkL_skip ?_ | refine walkL_block ?_ | (refine walkL_region fun K hK => ?_; simp (maxSteps := 4000000) only [go_sem]; (repeat (first | (refine ⟨_, .lent (hf := k4) (hd := rfl) (hr := rfl), ?_⟩; simp (maxSteps := 4000000) only [go_sem]) | (refine ⟨_, .lent (hf := k5) (hd := rfl) (hr := rfl), ?_⟩; simp (maxSteps := 4000000) only [go_sem]) | (refine ⟨_, .lent (hf := k6) (hd := rfl) (hr := rfl), ?_⟩; simp (maxSteps := 4000000) only [go_sem]) | (refine ⟨_, .lent (hf := k7) (hd := rfl) (hr := rfl), ?_⟩; simp (maxSteps := 4000000) only [go_sem]) | (refine ⟨_, .given (hf := k4) (hd := rfl) (ha := rfl), ?_⟩; simp (maxSteps := 4000000) only [go_sem]) | (refine ⟨_, .given (hf := k5) (hd := rfl) (ha := rfl), ?_⟩; simp (maxSteps := 4000000) only [go_sem]) | (refine ⟨_, .given (hf := k6) (hd := rfl) (ha := rfl), ?_⟩; simp (maxSteps := 4000000) only [go_sem]) | (refine ⟨_, .given (hf := k7) (hd := rfl) (ha := rfl), ?_⟩; simp (maxSteps := 4000000) only [go_sem]))); refine hK _ ?_; clear hK K) | refine walkL_nil ?_ | refine walkL_ret ?_ | refine walkL_exit ?_ | refine blockA_here ?_ | refine blockA_other rfl ?_ | refine blockA_ret ?_ | refine blockA_normal ?_ | refine thenA_ret ?_ | refine thenA_exit ?_ | refine thenA_normal ?_)
      simp (maxSteps := 4000000) only [go_sem, plantBad, q1, q2, q3, q4, q5, q6, q7, q8, q9, Bool.not_false, Bool.not_true, Bool.false_or, Bool.true_or, if_true]
    rw [q9] at k7
    cases q10 : withinB p.rate 0 10
    · rw [q10] at k8
      repeat (first | refine walkL_true rfl ?_ | refine walkL_false rfl ?_ | refine walkL_seq ?_ | refine walkL_skip ?_ | refine walkL_block ?_ | (refine walkL_region fun K hK => ?_; simp (maxSteps := 4000000) only [go_sem]; (repeat (first | (refine ⟨_, .lent (hf := k4) (hd := rfl) (hr := rfl), ?_⟩; simp (maxSteps := 4000000) only [go_sem]) | (refine ⟨_, .lent (hf := k5) (hd := rfl) (hr := rfl), ?_⟩; simp (maxSteps := 4000000) only [go_sem]) | (refine ⟨_, .lent (hf := k6) (hd := rfl) (hr := rfl), ?_⟩; simp (maxSteps := 4000000) only [go_sem]) | (refine ⟨_, .lent (hf := k7) (hd := rfl) (hr := rfl), ?_⟩; simp (maxSteps := 4000000) only [go_sem]) | (refine ⟨_, .lent (hf := k8) (hd := rfl) (hr := rfl), ?_⟩; simp (maxSteps := 4000000) only [go_sem]) | (refine ⟨_, .given (hf := k4) (hd := rfl) (ha := rfl), ?_⟩; simp (maxSteps := 4000000) only [go_sem]) | (refine ⟨_, .given (hf := k5) (hd := rfl) (ha := rfl), ?_⟩; simp (maxSteps := 4000000) only [go_sem]) | (refine ⟨_, .given (hf := k6) (hd := rfl) (ha := rfl), ?_⟩; simp (maxSteps := 4000000) only [go_sem]) | (refine ⟨_, .given (hf := k7) (hd := rfl) (ha := rfl), ?_⟩; simp (maxSteps := 4000000) only [go_sem]) | (refine ⟨_, .given (hf := k8) (hd := rfl) (ha := rfl), ?_⟩; simp (maxSteps := 4000000) only [go_sem]))); refine hK _ ?_; clear hK K) | refine walkL_nil ?_ | refine walkL_ret ?_ | refine walkL_exit ?_ | refine blockA_here ?_ | refine blockA_other rfl ?_ | refine blockA_ret ?_ | refine blockA_normal ?_ | refine thenA_ret ?_ | refine thenA_exit ?_ | refine thenA_normal ?_)
      simp (maxSteps := 4000000) only [go_sem, plantBad, q1, q2, q3, q4, q5, q6, q7, q8, q9, q10, Bool.not_false, Bool.not_true, Bool.false_or, Bool.true_or, if_true]
    rw [q10] at k8
    cases q11 : withinB p.units 0 200
    · rw [q11] at k9
      repeat (first | refine walkL_true rfl ?_ | refine walkL_false rfl ?_ | refine walkL_seq ?_ | refine walkL_skip ?_ | refine walkL_block ?_ | (refine walkL_region fun K hK => ?_; simp (maxSteps := 4000000) only [go_sem]; (repeat (first | (refine ⟨_, .lent (hf := k4) (hd := rfl) (hr := rfl), ?_⟩; simp (maxSteps := 4000000) only [go_sem]) | (refine ⟨_, .lent (hf := k5) (hd := rfl) (hr := rfl), ?_⟩; simp (maxSteps := 4000000) only [go_sem]) | (refine ⟨_, .lent (hf := k6) (hd := rfl) (hr := rfl), ?_⟩; simp (maxSteps := 4000000) only [go_sem]) | (refine ⟨_, .lent (hf := k7) (hd := rfl) (hr := rfl), ?_⟩; simp (maxSteps := 4000000) only [go_sem]) | (refine ⟨_, .lent (hf := k8) (hd := rfl) (hr := rfl), ?_⟩; simp (maxSteps := 4000000) only [go_sem]) | (refine ⟨_, .lent (hf := k9) (hd := rfl) (hr := rfl), ?_⟩; simp (maxSteps := 4000000) only [go_sem]) | (refine ⟨_, .given (hf := k4) (hd := rfl) (ha := rfl), ?_⟩; simp (maxSteps := 4000000) only [go_sem]) | (refine ⟨_, .given (hf := k5) (hd := rfl) (ha := rfl), ?_⟩; simp (maxSteps := 4000000) only [go_sem]) | (refine ⟨_, .given (hf := k6) (hd := rfl) (ha := rfl), ?_⟩; simp (maxSteps := 4000000) only [go_sem]) | (refine ⟨_, .given (hf := k7) (hd := rfl) (ha := rfl), ?_⟩; simp (maxSteps := 4000000) only [go_sem]) | (refine ⟨_, .given (hf := k8) (hd := rfl) (ha := rfl), ?_⟩; simp (maxSteps := 4000000) only [go_sem]) | (refine ⟨_, .given (hf := k9) (hd := rfl) (ha := rfl), ?_⟩; simp (maxSteps := 4000000) only [go_sem]))); refine hK _ ?_; clear hK K) | refine walkL_nil ?_ | refine walkL_ret ?_ | refine walkL_exit ?_ | refine blockA_here ?_ | refine blockA_other rfl ?_ | refine blockA_ret ?_ | refine blockA_normal ?_ | refine thenA_ret ?_ | refine thenA_exit ?_ | refine thenA_normal ?_)
      simp (maxSteps := 4000000) only [go_sem, plantBad, q1, q2, q3, q4, q5, q6, q7, q8, q9, q10, q11, Bool.not_false, Bool.not_true, Bool.false_or, if_true]
    · rw [q11] at k9
      repeat (first | refine walkL_true rfl ?_ | refine walkL_false rfl ?_ | refine walkL_seq ?_ | refine walkL_skip ?_ | refine walkL_block ?_ | (refine walkL_region fun K hK => ?_; simp (maxSteps := 4000000) only [go_sem]; (repeat (first | (refine ⟨_, .lent (hf := k4) (hd := rfl) (hr := rfl), ?_⟩; simp (maxSteps := 4000000) only [go_sem]) | (refine ⟨_, .lent (hf := k5) (hd := rfl) (hr := rfl), ?_⟩; simp (maxSteps := 4000000) only [go_sem]) | (refine ⟨_, .lent (hf := k6) (hd := rfl) (hr := rfl), ?_⟩; simp (maxSteps := 4000000) only [go_sem]) | (refine ⟨_, .lent (hf := k7) (hd := rfl) (hr := rfl), ?_⟩; simp (maxSteps := 4000000) only [go_sem]) | (refine ⟨_, .lent (hf := k8) (hd := rfl) (hr := rfl), ?_⟩; simp (maxSteps := 4000000) only [go_sem]) | (refine ⟨_, .lent (hf := k9) (hd := rfl) (hr := rfl), ?_⟩; simp (maxSteps := 4000000) only [go_sem]) | (refine ⟨_, .given (hf := k4) (hd := rfl) (ha := rfl), ?_⟩; simp (maxSteps := 4000000) only [go_sem]) | (refine ⟨_, .given (hf := k5) (hd := rfl) (ha := rfl), ?_⟩; simp (maxSteps := 4000000) only [go_sem]) | (refine ⟨_, .given (hf := k6) (hd := rfl) (ha := rfl), ?_⟩; simp (maxSteps := 4000000) only [go_sem]) | (refine ⟨_, .given (hf := k7) (hd := rfl) (ha := rfl), ?_⟩; simp (maxSteps := 4000000) only [go_sem]) | (refine ⟨_, .given (hf := k8) (hd := rfl) (ha := rfl), ?_⟩; simp (maxSteps := 4000000) only [go_sem]) | (refine ⟨_, .given (hf := k9) (hd := rfl) (ha := rfl), ?_⟩; simp (maxSteps := 4000000) only [go_sem]))); refine hK _ ?_; clear hK K) | refine walkL_nil ?_ | refine walkL_ret ?_ | refine walkL_exit ?_ | refine blockA_here ?_ | refine blockA_other rfl ?_ | refine blockA_ret ?_ | refine blockA_normal ?_ | refine thenA_ret ?_ | refine thenA_exit ?_ | refine thenA_normal ?_)
      simp (maxSteps := 4000000) only [go_sem, plantBad, q1, q2, q3, q4, q5, q6, q7, q8, q9, q10, q11, Bool.not_false, Bool.not_true, Bool.false_or, Bool.false_eq_true, if_false]
  · rw [if_neg hlk] at h33
    have e : plantE p = lookF p.scen p.seen 0 true := by rw [plantE, if_neg hlk]
    rw [e]
    have hz : (lookF p.scen p.seen 0 true != 0) = true := by simpa using hlk
    refine fn_walk 92 Try.call36 Try.func36 rfl (by decide) fun J => ?_
    simp (maxSteps := 4000000) only [go_sem, St.start, Try.ntmps36, Try.results36, Plant.cells]
    repeat (first | refine walkL_true rfl ?_ | refine walkL_false rfl ?_ | refine walkL_seq ?_ | refine walkL_skip ?_ | refine walkL_block ?_ | (refine walkL_region fun K hK => ?_; simp (maxSteps := 4000000) only [go_sem, hz]; (repeat (first | (refine ⟨_, .lent (hf := h33) (hd := rfl) (hr := rfl), ?_⟩; simp (maxSteps := 4000000) only [go_sem, hz]) | (refine ⟨_, .given (hf := h33) (hd := rfl) (ha := rfl), ?_⟩; simp (maxSteps := 4000000) only [go_sem, hz]))); refine hK _ ?_; clear hK K) | refine walkL_nil ?_ | refine walkL_ret ?_ | refine walkL_exit ?_ | refine blockA_here ?_ | refine blockA_other rfl ?_ | refine blockA_ret ?_ | refine blockA_normal ?_ | refine thenA_ret ?_ | refine thenA_exit ?_ | refine thenA_normal ?_)
    simp (maxSteps := 4000000) only [go_sem]
end Go.Ab
namespace Go.Ab
open Go.RowKit Go.Proofs
set_option maxHeartbeats 8000000
set_option maxRecDepth 20000
attribute [local irreducible] WalkL Walk

/-! ### Weathers -/

theorem f94 (h : Hour) (s : Sky) : Fn Try.prog 94 [.agg h.row, .agg s.row] (.bool (insideB s h)) := by
  have h1 := f80 s.wind h.wind.lo h.wind.hi
  have h2 := f80 s.rain h.rain.lo h.rain.hi
  have h3 := f80 s.temp h.temp.lo h.temp.hi
  obtain ⟨b1, e1⟩ : ∃ b, b = withinB s.wind h.wind.lo h.wind.hi := ⟨_, rfl⟩
  obtain ⟨b2, e2⟩ : ∃ b, b = withinB s.rain h.rain.lo h.rain.hi := ⟨_, rfl⟩
  obtain ⟨b3, e3⟩ : ∃ b, b = withinB s.temp h.temp.lo h.temp.hi := ⟨_, rfl⟩
  rw [insideB, ← e1, ← e2, ← e3]
  rw [← e1] at h1
  rw [← e2] at h2
  rw [← e3] at h3
  refine fn_walk 36 Try.call94 Try.func94 rfl (by decide) fun J => ?_
  simp (maxSteps := 4000000) only [go_sem, St.start, Try.ntmps94, Try.results94, Hour.row, Sky.row]
  cases b1 <;> cases b2
  all_goals
    repeat (first | refine walkL_seq ?_ | refine walkL_skip ?_ | refine walkL_block ?_ | (refine walkL_region fun K hK => ?_; simp (maxSteps := 4000000) only [go_sem]; (repeat (first | (refine ⟨_, .lent (hf := h1) (hd := rfl) (hr := rfl), ?_⟩; simp (maxSteps := 4000000) only [go_sem]) | (refine ⟨_, .lent (hf := h2) (hd := rfl) (hr := rfl), ?_⟩; simp (maxSteps := 4000000) only [go_sem]) | (refine ⟨_, .lent (hf := h3) (hd := rfl) (hr := rfl), ?_⟩; simp (maxSteps := 4000000) only [go_sem]) | (refine ⟨_, .given (hf := h1) (hd := rfl) (ha := rfl), ?_⟩; simp (maxSteps := 4000000) only [go_sem]) | (refine ⟨_, .given (hf := h2) (hd := rfl) (ha := rfl), ?_⟩; simp (maxSteps := 4000000) only [go_sem]) | (refine ⟨_, .given (hf := h3) (hd := rfl) (ha := rfl), ?_⟩; simp (maxSteps := 4000000) only [go_sem]))); refine hK _ ?_; clear hK K) | refine walkL_nil ?_ | refine walkL_ret ?_ | refine walkL_exit ?_ | refine blockA_here ?_ | refine blockA_other rfl ?_ | refine blockA_ret ?_ | refine blockA_normal ?_ | refine thenA_ret ?_ | refine thenA_exit ?_ | refine thenA_normal ?_)
    simp (maxSteps := 4000000) only [go_sem]

def eqAll : List Hour → List Sky → Bool
  | [], [] => true
  | h :: l, s :: m => insideB s h && eqAll l m
  | _, _ => false

theorem eqAll_len : ∀ {l : List Hour} {m : List Sky}, eqAll l m = true → l.length = m.length
  | [], [], _ => rfl
  | h :: l, s :: m, h1 => by
    rw [eqAll, Bool.and_eq_true] at h1
    simp [eqAll_len h1.2]
  | [], _ :: _, h => by cases h
  | _ :: _, [], h => by cases h

theorem f93 (l : List Hour) (m : List Sky) (hl : l.length < 2 ^ 30) : Fn Try.prog 93 [.sl (hourRows l), .sl (skyRows m), .fn 94 []] (.bool (eqAll l m)) := by
  by_cases hlm : l.length = m.length
  · have hne : ((l.length : Int) != (m.length : Int)) = false := by simp [hlm]
    refine fn_walk 32 Try.call93 Try.func93 rfl (by decide) fun J => ?_
    simp (maxSteps := 4000000) only [go_sem, St.start, Try.ntmps93, Try.results93]
    repeat (first | refine walkL_true rfl ?_ | refine walkL_false rfl ?_ | refine walkL_seq ?_ | refine walkL_skip ?_ | refine walkL_block ?_ | (refine walkL_region fun K hK => ?_; simp (maxSteps := 4000000) only [go_sem, hne]; refine hK _ ?_; clear hK K) | refine walkL_nil ?_ | refine walkL_ret ?_ | refine walkL_exit ?_ | refine blockA_here ?_ | refine blockA_other rfl ?_ | refine blockA_ret ?_ | refine blockA_normal ?_ | refine thenA_ret ?_ | refine thenA_exit ?_ | refine thenA_normal ?_)
    refine walkL_loopS (fun (i : Nat) => [(17, .d (.i i))]) (fun _ => []) (fun i => i ≤ l.length ∧ eqAll l m = eqAll (l.drop i) (m.drop i)) (fun i => l.length - i) 0 ?_ ⟨Nat.zero_le _, rfl⟩ ?_
    · simp (maxSteps := 4000000) only [go_sem]
      refine weak_of [] ?_ ?_ rfl rfl <;> simp [lessT, lessM, lessB, AV.less]
    · intro i ⟨hi, heq⟩
      simp (maxSteps := 4000000) only [go_sem]
      repeat (first | refine walkL_seq ?_ | refine walkL_skip ?_ | refine walkL_block ?_ | (refine walkL_region fun K hK => ?_; simp (maxSteps := 4000000) only [go_sem]; refine hK _ ?_; clear hK K) | refine walkL_nil ?_ | refine walkL_ret ?_ | refine walkL_exit ?_ | refine blockA_here ?_ | refine blockA_other rfl ?_ | refine blockA_ret ?_ | refine blockA_normal ?_ | refine thenA_ret ?_ | refine thenA_exit ?_ | refine thenA_normal ?_)
      refine walkL_cond rfl (fun hb => ?_) (fun hb => ?_)
      · have hlt : i < l.length := by simpa using hb
        have hw : IntKind.i64.wrap ((i : Int) + 1) = ((i + 1 : Nat) : Int) := by rw [wr_small (by omega)]; simp
        obtain ⟨h, hx⟩ : ∃ h, l[i]? = some h := ⟨_, List.getElem?_eq_getElem hlt⟩
        obtain ⟨s, hy⟩ : ∃ s, m[i]? = some s := ⟨_, List.getElem?_eq_getElem (by omega)⟩
        have g1 := hourRows_at hx
        have g2 := skyRows_at hy
        have h94 := f94 h s
        rw [Hour.row, Sky.row] at h94
        rw [drop_get hx, drop_get hy, eqAll] at heq
        cases hq : insideB s h
        · rw [hq, Bool.false_and] at heq
          rw [hq] at h94
          repeat (first | refine walkL_true rfl ?_ | refine walkL_false rfl ?_ | refine walkL_seq ?_ | refine walkL_skip ?_ | refine walkL_block ?_ | (refine walkL_region fun K hK => ?_; simp (maxSteps := 4000000) only [go_sem, g1, g2, Hour.row, Sky.row]; (repeat (first | (refine ⟨_, .lent (hf := h94) (hd := rfl) (hr := rfl), ?_⟩; simp (maxSteps := 4000000) only [go_sem, g1, g2, Hour.row, Sky.row]) | (refine ⟨_, .given (hf := h94) (hd := rfl) (ha := rfl), ?_⟩; simp (maxSteps := 4000000) only [go_sem, g1, g2, Hour.row, Sky.row]))); refine hK _ ?_; clear hK K) | refine walkL_nil ?_ | refine walkL_ret ?_ | refine walkL_exit ?_ | refine blockA_here ?_ | refine blockA_other rfl ?_ | refine blockA_ret ?_ | refine blockA_normal ?_ | refine thenA_ret ?_ | refine thenA_exit ?_ | refine thenA_normal ?_)
          simp (maxSteps := 4000000) only [go_sem, heq]
        · rw [hq, Bool.true_and] at heq
          rw [hq] at h94
          repeat (first | refine walkL_true rfl ?_ | refine walkL_false rfl ?_ | refine walkL_seq ?_ | refine walkL_skip ?_ | refine walkL_block ?_ | (refine walkL_region fun K hK => ?_; simp (maxSteps := 4000000) only [go_sem, g1, g2, Hour.row, Sky.row, hw]; (repeat (first | (refine ⟨_, .lent (hf := h94) (hd := rfl) (hr := rfl), ?_⟩; simp (maxSteps := 4000000) only [go_sem, g1, g2, Hour.row, Sky.row, hw]) | (refine ⟨_, .given (hf := h94) (hd := rfl) (ha := rfl), ?_⟩; simp (maxSteps := 4000000) only [go_sem, g1, g2, Hour.row, Sky.row, hw]))); refine hK _ ?_; clear hK K) | refine walkL_nil ?_ | refine walkL_ret ?_ | refine walkL_exit ?_ | refine blockA_here ?_ | refine blockA_other rfl ?_ | refine blockA_ret ?_ | refine blockA_normal ?_ | refine thenA_ret ?_ | refine thenA_exit ?_ | refine thenA_normal ?_)
          refine ⟨rfl, i + 1, ?_, ⟨hlt, heq⟩, by omega⟩
          refine weak_of [] ?_ ?_ rfl rfl <;> simp [lessT, lessM, lessB, AV.less]
      · have he : i = l.length := by (have : ¬ i < l.length := by simpa using hb); omega
        subst he
        have e1 : l.drop l.length = [] := List.drop_length
        have e2 : m.drop l.length = [] := List.drop_eq_nil_of_le (by omega)
        rw [e1, e2, eqAll] at heq
        repeat (first | refine walkL_seq ?_ | refine walkL_skip ?_ | refine walkL_block ?_ | (refine walkL_region fun K hK => ?_; simp (maxSteps := 4000000) only [go_sem]; refine hK _ ?_; clear hK K) | refine walkL_nil ?_ | refine walkL_ret ?_ | refine walkL_exit ?_ | refine blockA_here ?_ | refine blockA_other rfl ?_ | refine blockA_ret ?_ | refine blockA_normal ?_ | refine thenA_ret ?_ | refine thenA_exit ?_ | refine thenA_normal ?_)
        simp (maxSteps := 4000000) only [go_sem, heq]
  · have hne : ((l.length : Int) != (m.length : Int)) = true := by simp; omega
    have e : eqAll l m = false := by
      cases h : eqAll l m with
      | false => rfl
      | true => exact absurd (eqAll_len h) hlm
    refine fn_walk 32 Try.call93 Try.func93 rfl (by decide) fun J => ?_
    simp (maxSteps := 4000000) only [go_sem, St.start, Try.ntmps93, Try.results93]
    repeat (first | refine walkL_true rfl ?_ | refine walkL_false rfl ?_ | refine walkL_seq ?_ | refine walkL_skip ?_ | refine walkL_block ?_ | (refine walkL_region fun K hK => ?_; simp (maxSteps := 4000000) only [go_sem, hne]; refine hK _ ?_; clear hK K) | refine walkL_nil ?_ | refine walkL_ret ?_ | refine walkL_exit ?_ | refine blockA_here ?_ | refine blockA_other rfl ?_ | refine blockA_ret ?_ | refine blockA_normal ?_ | refine thenA_ret ?_ | refine thenA_exit ?_ | refine thenA_normal ?_)
    simp (maxSteps := 4000000) only [go_sem, e]

theorem f92 (l : List Hour) (m : List Sky) (hl : l.length < 2 ^ 30) : Fn Try.prog 92 [.sl (hourRows l), .ptr [.sl (skyRows m)] 0] (.bool (eqAll l m)) := by
  have h93 := f93 l m hl
  refine fn_walk 7 Try.call92 Try.func92 rfl (by decide) fun J => ?_
  simp (maxSteps := 4000000) only [go_sem, St.start, Try.ntmps92, Try.results92]
  repeat (first | refine walkL_seq ?_ | refine walkL_skip ?_ | refine walkL_block ?_ | (refine walkL_region fun K hK => ?_; simp (maxSteps := 4000000) only [go_sem]; (repeat (first | (refine ⟨_, .lent (hf := h93) (hd := rfl) (hr := rfl), ?_⟩; simp (maxSteps := 4000000) only [go_sem]) | (refine ⟨_, .given (hf := h93) (hd := rfl) (ha := rfl), ?_⟩; simp (maxSteps := 4000000) only [go_sem]))); refine hK _ ?_; clear hK K) | refine walkL_nil ?_ | refine walkL_ret ?_ | refine walkL_exit ?_ | refine blockA_here ?_ | refine blockA_other rfl ?_ | refine blockA_ret ?_ | refine blockA_normal ?_ | refine thenA_ret ?_ | refine thenA_exit ?_ | refine thenA_normal ?_)
  simp (maxSteps := 4000000) only [go_sem]

theorem f105 (xs : List (List Hour)) (g : Nat) (caps : List DV) (q : (List Hour) → Bool) (hq : ∀ s ∈ xs, Fn Try.prog g (.sl (hourRows s) :: caps) (.bool (q s))) (hl : xs.length < 2 ^ 62) : Fn Try.prog 105 [.sl (scenRows xs), .fn g caps] (.i (idxFrom q xs 0)) := by
  refine fn_walk 19 Try.call105 Try.func105 rfl (by decide) fun J => ?_
  simp (maxSteps := 4000000) only [go_sem, St.start, Try.ntmps105, Try.results105]
  repeat (first | refine walkL_seq ?_ | refine walkL_skip ?_ | refine walkL_block ?_ | (refine walkL_region fun K hK => ?_; simp (maxSteps := 4000000) only [go_sem]; refine hK _ ?_; clear hK K) | refine walkL_nil ?_ | refine walkL_ret ?_ | refine walkL_exit ?_ | refine blockA_here ?_ | refine blockA_other rfl ?_ | refine blockA_ret ?_ | refine blockA_normal ?_ | refine thenA_ret ?_ | refine thenA_exit ?_ | refine thenA_normal ?_)
  refine walkL_loopS (fun (i : Nat) => [(8, .d (.i i))]) (fun _ => []) (fun i => i ≤ xs.length ∧ idxFrom q xs 0 = idxFrom q (xs.drop i) i) (fun i => xs.length - i) 0 ?_ ⟨Nat.zero_le _, rfl⟩ ?_
  · simp (maxSteps := 4000000) only [go_sem]
    refine weak_of [] ?_ ?_ rfl rfl <;> simp [lessT, lessM, lessB, AV.less]
  · intro i ⟨hi, hq0⟩
    simp (maxSteps := 4000000) only [go_sem]
    repeat (first | refine walkL_seq ?_ | refine walkL_skip ?_ | refine walkL_block ?_ | (refine walkL_region fun K hK => ?_; simp (maxSteps := 4000000) only [go_sem]; refine hK _ ?_; clear hK K) | refine walkL_nil ?_ | refine walkL_ret ?_ | refine walkL_exit ?_ | refine blockA_here ?_ | refine blockA_other rfl ?_ | refine blockA_ret ?_ | refine blockA_normal ?_ | refine thenA_ret ?_ | refine thenA_exit ?_ | refine thenA_normal ?_)
    refine walkL_cond rfl (fun hb => ?_) (fun hb => ?_)
    · have hlt : i < xs.length := by simpa using hb
      have hw : IntKind.i64.wrap ((i : Int) + 1) = ((i + 1 : Nat) : Int) := by rw [wr_small (by omega)]; simp
      obtain ⟨s, hs⟩ : ∃ s, xs[i]? = some s := ⟨_, List.getElem?_eq_getElem hlt⟩
      rw [drop_get hs, idxFrom] at hq0
      repeat (first | refine walkL_seq ?_ | refine walkL_skip ?_ | refine walkL_block ?_ | (refine walkL_region fun K hK => ?_; simp (maxSteps := 4000000) only [go_sem]; refine hK _ ?_; clear hK K) | refine walkL_nil ?_ | refine walkL_ret ?_ | refine walkL_exit ?_ | refine blockA_here ?_ | refine blockA_other rfl ?_ | refine blockA_ret ?_ | refine blockA_normal ?_ | refine thenA_ret ?_ | refine thenA_exit ?_ | refine thenA_normal ?_)
      refine walkL_region fun K hK => ?_
      simp (maxSteps := 4000000) only [go_sem, hs, List.getElem?_map, scenRows_at hs, hw]
      refine ⟨_, .lent (hf := hq s (List.mem_of_getElem? hs)) (hd := reify_caps _ _ _ _ rfl) (hr := rfl), ?_⟩
      simp (maxSteps := 4000000) only [go_sem]
      refine hK _ ?_
      clear hK K
      refine walkL_cond rfl (fun hc => ?_) (fun hc => ?_)
      · rw [hc, if_pos rfl] at hq0
        repeat (first | refine walkL_seq ?_ | refine walkL_skip ?_ | refine walkL_block ?_ | (refine walkL_region fun K hK => ?_; simp (maxSteps := 4000000) only [go_sem]; refine hK _ ?_; clear hK K) | refine walkL_nil ?_ | refine walkL_ret ?_ | refine walkL_exit ?_ | refine blockA_here ?_ | refine blockA_other rfl ?_ | refine blockA_ret ?_ | refine blockA_normal ?_ | refine thenA_ret ?_ | refine thenA_exit ?_ | refine thenA_normal ?_)
        simp (maxSteps := 4000000) only [go_sem, hq0]
      · rw [hc] at hq0
        repeat (first | refine walkL_seq ?_ | refine walkL_skip ?_ | refine walkL_block ?_ | (refine walkL_region fun K hK => ?_; simp (maxSteps := 4000000) only [go_sem, hw]; refine hK _ ?_; clear hK K) | refine walkL_nil ?_ | refine walkL_ret ?_ | refine walkL_exit ?_ | refine blockA_here ?_ | refine blockA_other rfl ?_ | refine blockA_ret ?_ | refine blockA_normal ?_ | refine thenA_ret ?_ | refine thenA_exit ?_ | refine thenA_normal ?_)
        refine ⟨rfl, i + 1, ?_, ⟨hlt, hq0⟩, by omega⟩
        refine weak_of [] ?_ ?_ rfl rfl <;> simp [lessT, lessM, lessB, AV.less]
    · have he : i = xs.length := by (have : ¬ i < xs.length := by simpa using hb); omega
      subst he
      repeat (first | refine walkL_seq ?_ | refine walkL_skip ?_ | refine walkL_block ?_ | (refine walkL_region fun K hK => ?_; simp (maxSteps := 4000000) only [go_sem]; refine hK _ ?_; clear hK K) | refine walkL_nil ?_ | refine walkL_ret ?_ | refine walkL_exit ?_ | refine blockA_here ?_ | refine blockA_other rfl ?_ | refine blockA_ret ?_ | refine blockA_normal ?_ | refine thenA_ret ?_ | refine thenA_exit ?_ | refine thenA_normal ?_)
      simp (maxSteps := 4000000) only [go_sem, hq0, List.drop_length, idxFrom]

theorem f91 (xs : List (List Hour)) (g : Nat) (caps : List DV) (q : (List Hour) → Bool) (hq : ∀ s ∈ xs, Fn Try.prog g (.sl (hourRows s) :: caps) (.bool (q s))) (hl : xs.length < 2 ^ 62) : Fn Try.prog 91 [.sl (scenRows xs), .fn g caps] (.bool (xs.any q)) := by
  refine fn_walk 9 Try.call91 Try.func91 rfl (by decide) fun J => ?_
  simp (maxSteps := 4000000) only [go_sem, St.start, Try.ntmps91, Try.results91]
  repeat (first | refine walkL_seq ?_ | refine walkL_skip ?_ | refine walkL_block ?_ | (refine walkL_region fun K hK => ?_; simp (maxSteps := 4000000) only [go_sem]; (repeat (first | (refine ⟨_, .lent (hf := f105 xs g caps q hq hl) (hd := rfl) (hr := rfl), ?_⟩; simp (maxSteps := 4000000) only [go_sem]) | (refine ⟨_, .given (hf := f105 xs g caps q hq hl) (hd := rfl) (ha := rfl), ?_⟩; simp (maxSteps := 4000000) only [go_sem]))); refine hK _ ?_; clear hK K) | refine walkL_nil ?_ | refine walkL_ret ?_ | refine walkL_exit ?_ | refine blockA_here ?_ | refine blockA_other rfl ?_ | refine blockA_ret ?_ | refine blockA_normal ?_ | refine thenA_ret ?_ | refine thenA_exit ?_ | refine thenA_normal ?_)
  simp (maxSteps := 4000000) only [go_sem, idxFrom_nonneg]

def weatherB (g : Grid) (m : List Sky) : Bool := g.scen.any fun l => eqAll l m

theorem f61 (g : Grid) (m : List Sky) (h1 : g.scen.length < 2 ^ 30) (h2 : ∀ l ∈ g.scen, l.length < 2 ^ 30) : Fn Try.prog 61 [.ptr g.cells 0, .sl (skyRows m)] (.bool (weatherB g m)) := by
  have h91 := f91 g.scen 92 [.ptr [.sl (skyRows m)] 0] (fun l => eqAll l m) (fun l hl => f92 l m (h2 l hl)) (by omega)
  refine fn_walk 11 Try.call61 Try.func61 rfl (by decide) fun J => ?_
  simp (maxSteps := 4000000) only [go_sem, St.start, Try.ntmps61, Try.results61, Grid.cells]
  repeat (first | refine walkL_seq ?_ | refine walkL_skip ?_ | refine walkL_block ?_ | (refine walkL_region fun K hK => ?_; simp (maxSteps := 4000000) only [go_sem]; (repeat (first | (refine ⟨_, .lent (hf := h91) (hd := rfl) (hr := rfl), ?_⟩; simp (maxSteps := 4000000) only [go_sem]) | (refine ⟨_, .given (hf := h91) (hd := rfl) (ha := rfl), ?_⟩; simp (maxSteps := 4000000) only [go_sem]))); refine hK _ ?_; clear hK K) | refine walkL_nil ?_ | refine walkL_ret ?_ | refine walkL_exit ?_ | refine blockA_here ?_ | refine blockA_other rfl ?_ | refine blockA_ret ?_ | refine blockA_normal ?_ | refine thenA_ret ?_ | refine thenA_exit ?_ | refine thenA_normal ?_)
  simp (maxSteps := 4000000) only [go_sem, weatherB]

/-! ### Levels, Lasts, Worst -/

def levsTo (p : Plant) (burn : List Int) (skies : List Sky) (k : Nat) : List Int := (List.range k).map fun j => lvAt p burn skies (j + 1)
def lostTo (p : Plant) (burn : List Int) (skies : List Sky) : Nat → Int
  | 0 => 0
  | k + 1 => wr (lostTo p burn skies k + lostAt p burn skies k)

def levelsE (p : Plant) (burn : List Int) (m : List Sky) : Int := if openE p [burn] = 0 then (if weatherB (gridOf p) m then 0 else 102) else openE p [burn]
def levelsP (p : Plant) (burn : List Int) (m : List Sky) : List Int × Int × Int :=
  if levelsE p burn m = 0 then (levsTo p burn m m.length, lostTo p burn m m.length, 0) else ([], 0, levelsE p burn m)

theorem open_nil {p : Plant} {bs : List (List Int)} (h : openE p bs = 0) : openE p [] = 0 ∧ ∀ b ∈ bs, burnB (gridOf p) b = true := by
  unfold openE at h ⊢
  split at h
  · rename_i hlk
    rw [if_pos hlk]
    split at h
    · cases h
    · rename_i hb
      rw [if_neg hb]
      split at h
      · cases h
      · rename_i hn
        refine ⟨by simp, fun b hm => ?_⟩
        have := any_false_get (Bool.eq_false_iff.2 hn) b hm
        simpa using this
  · rename_i hlk; exact absurd h hlk

theorem burn_len {g : Grid} {H : Nat} (hg : GridOk g H) {b : List Int} (h : burnB g b = true) : b.length = H := by
  unfold burnB at h
  rw [Bool.and_eq_true, Bool.and_eq_true, beq_iff_eq, hg.hours] at h
  omega

theorem levsTo_push (p : Plant) (burn : List Int) (skies : List Sky) (k : Nat) : intRows (levsTo p burn skies (k + 1)) = intRows (levsTo p burn skies k) ++ [[.i (lvAt p burn skies (k + 1))]] := by
  simp [levsTo, List.range_succ, intRows]

theorem weather_len {g : Grid} {H : Nat} (hg : GridOk g H) {m : List Sky} (h : weatherB g m = true) : m.length = H := by
  obtain ⟨l, hl, he⟩ := List.any_eq_true.1 h
  rw [← eqAll_len he]
  exact hg.len l hl

theorem f30 (p : Plant) (burn : List Int) (m : List Sky) (hs : PlantSmall p) (hb : burn.length < 2 ^ 30) :
    Fn Try.prog 30 [.agg p.cells, .sl (intRows burn), .sl (skyRows m)] (.tup [.sl (intRows (levelsP p burn m).1), .i (levelsP p burn m).2.1, .i (levelsP p burn m).2.2]) := by
  have h44 := f44 p [burn] hs (by simp) (by simpa using hb)
  have e0 : listRows [burn] = [[.sl (intRows burn)]] := rfl
  rw [e0, Plant.cells] at h44
  by_cases hz : openE p [burn] = 0
  · obtain ⟨hz0, hbn⟩ := open_nil hz
    obtain ⟨H, hg, _⟩ := grid_ok hz0
    have hbl := burn_len hg (hbn burn (by simp))
    have hpos := hg.pos
    rw [if_pos hz, hz] at h44
    have eL : levelsE p burn m = if weatherB (gridOf p) m then 0 else 102 := by rw [levelsE, if_pos hz]
    have hgp : (gridOf p).p = p := rfl
    obtain ⟨g, hgg⟩ : ∃ g, g = gridOf p := ⟨_, rfl⟩
    rw [← hgg] at h44 hg eL hgp
    have h61 := f61 g m (by have := hg.scen.2; omega) (fun l hl => by rw [hg.len l hl]; omega)
    cases hw : weatherB g m
    · rw [hw] at h61 eL
      have e1 : levelsP p burn m = ([], 0, 102) := by rw [levelsP, eL]; simp
      rw [e1]
      rw [Grid.cells] at h44 h61
      refine fn_walk 45 Try.call30 Try.func30 rfl (by decide) fun J => ?_
      simp (maxSteps := 4000000) only [go_sem, St.start, Try.ntmps30, Try.results30, Plant.cells]
      repeat (first | refine walkL_true rfl ?_ | refine walkL_false rfl ?_ | refine walkL_seq ?_ | refine walkL_skip ?_ | refine walkL_block ?_ | (refine walkL_region fun K hK => ?_; simp (maxSteps := 4000000) only [go_sem]; (repeat (first | (refine ⟨_, .lent (hf := h44) (hd := rfl) (hr := rfl), ?_⟩; simp (maxSteps := 4000000) only [go_sem]) | (refine ⟨_, .lent (hf := h61) (hd := rfl) (hr := rfl), ?_⟩; simp (maxSteps := 4000000) only [go_sem]) | (refine ⟨_, .given (hf := h44) (hd := rfl) (ha := rfl), ?_⟩; simp (maxSteps := 4000000) only [go_sem]) | (refine ⟨_, .given (hf := h61) (hd := rfl) (ha := rfl), ?_⟩; simp (maxSteps := 4000000) only [go_sem]))); refine hK _ ?_; clear hK K) | refine walkL_nil ?_ | refine walkL_ret ?_ | refine walkL_exit ?_ | refine blockA_here ?_ | refine blockA_other rfl ?_ | refine blockA_ret ?_ | refine blockA_normal ?_ | refine thenA_ret ?_ | refine thenA_exit ?_ | refine thenA_normal ?_)
      simp (maxSteps := 4000000) only [go_sem]
      try rfl
    · have hml := weather_len hg hw
      rw [hw] at h61 eL
      have e1 : levelsP p burn m = (levsTo p burn m m.length, lostTo p burn m m.length, 0) := by rw [levelsP, eL]; simp
      rw [e1]
      have hit := iter95 g burn m (by omega) (by rw [hg.sun]; omega) (by rw [hg.needs]; omega) (by omega)
      have h62 := f62 g burn m
      rw [hgp] at hit
      have hlen : (levItems p burn m).length = m.length := by simp [levItems]
      rw [Grid.cells] at h44 h61 h62 hit
      refine fn_walk 45 Try.call30 Try.func30 rfl (by decide) fun J => ?_
      simp (maxSteps := 4000000) only [go_sem, St.start, Try.ntmps30, Try.results30, Plant.cells]
      repeat (first | refine walkL_true rfl ?_ | refine walkL_false rfl ?_ | refine walkL_seq ?_ | refine walkL_skip ?_ | refine walkL_block ?_ | (refine walkL_region fun K hK => ?_; simp (maxSteps := 4000000) only [go_sem]; (repeat (first | (refine ⟨_, .lent (hf := h44) (hd := rfl) (hr := rfl), ?_⟩; simp (maxSteps := 4000000) only [go_sem]) | (refine ⟨_, .lent (hf := h61) (hd := rfl) (hr := rfl), ?_⟩; simp (maxSteps := 4000000) only [go_sem]) | (refine ⟨_, .given (hf := h44) (hd := rfl) (ha := rfl), ?_⟩; simp (maxSteps := 4000000) only [go_sem]) | (refine ⟨_, .given (hf := h61) (hd := rfl) (ha := rfl), ?_⟩; simp (maxSteps := 4000000) only [go_sem]))); refine hK _ ?_; clear hK K) | refine walkL_nil ?_ | refine walkL_ret ?_ | refine walkL_exit ?_ | refine blockA_here ?_ | refine blockA_other rfl ?_ | refine blockA_ret ?_ | refine blockA_normal ?_ | refine thenA_ret ?_ | refine thenA_exit ?_ | refine thenA_normal ?_)
      refine walkL_region fun K hK => ?_
      simp (maxSteps := 4000000) only [go_sem]
      refine ⟨_, .given (hf := h62) (hd := rfl) (ha := rfl), ?_⟩
      simp (maxSteps := 4000000) only [go_sem]
      refine hK _ ?_
      clear hK K
      repeat (first | refine walkL_seq ?_ | refine walkL_skip ?_ | refine walkL_block ?_ | (refine walkL_region fun K hK => ?_; simp (maxSteps := 4000000) only [go_sem]; refine hK _ ?_; clear hK K) | refine walkL_nil ?_ | refine walkL_ret ?_ | refine walkL_exit ?_ | refine blockA_here ?_ | refine blockA_other rfl ?_ | refine blockA_ret ?_ | refine blockA_normal ?_ | refine thenA_ret ?_ | refine thenA_exit ?_ | refine thenA_normal ?_)
      refine walkL_rangeS (g := .tmp 33) rfl hit (by intro row hr; obtain ⟨w, _, rfl⟩ := List.mem_map.1 hr; rfl) (fun _ => []) (fun (a : Nat) => [(6, some (.box [.own 39])), (39, some (.arr 3 1 (intRows (levsTo p burn m a)))), (7, some (.box [.d (.i (lostTo p burn m a))]))])
        (fun i a => a = i) (fun _ _ => False) 0 ?_ rfl ?_ ?_ (fun _ _ h => h.elim)
      · simp (maxSteps := 4000000) only [go_sem]
        refine weak_of [39] ?_ ?_ rfl rfl <;> simp [lessT, lessM, lessB, AV.less]
        all_goals first | done | rfl | exact ⟨rfl, rfl⟩
      · rintro i a row hi rfl l2 m2
        have hlt : a < m.length := by rw [← hlen]; exact (List.getElem?_eq_some_iff.1 hi).1
        have hrow : row = [.i (lvAt p burn m (a + 1)), .i (lostAt p burn m a)] := by
          have : (levItems p burn m)[a]? = some [.i (lvAt p burn m (a + 1)), .i (lostAt p burn m a)] := by simp [levItems, List.getElem?_map, List.getElem?_range hlt]
          rw [hi] at this
          exact Option.some.inj this
        subst hrow
        have hn : (levsTo p burn m a).length + 1 ≤ 549755813888 := by simp [levsTo]; omega
        have hls : wr (lostTo p burn m a + lostAt p burn m a) = lostTo p burn m (a + 1) := rfl
        simp (maxSteps := 4000000) only [go_sem]
        repeat (first | refine walkL_seq ?_ | refine walkL_skip ?_ | refine walkL_block ?_ | (refine walkL_region fun K hK => ?_; simp (maxSteps := 4000000) only [go_sem, hn, hls]; refine hK _ ?_; clear hK K) | refine walkL_nil ?_ | refine walkL_ret ?_ | refine walkL_exit ?_ | refine blockA_here ?_ | refine blockA_other rfl ?_ | refine blockA_ret ?_ | refine blockA_normal ?_ | refine thenA_ret ?_ | refine thenA_exit ?_ | refine thenA_normal ?_)
        refine ⟨rfl, a + 1, ?_, rfl⟩
        simp (maxSteps := 4000000) only [go_sem]
        rw [levsTo_push]
        refine weak_of [] ?_ ?_ rfl rfl <;> simp [lessT, lessM, lessB, AV.less]
        all_goals first | done | rfl | exact ⟨rfl, rfl⟩
      · rintro a rfl
        rw [hlen]
        simp (maxSteps := 4000000) only [go_sem]
        repeat (first | refine walkL_seq ?_ | refine walkL_skip ?_ | refine walkL_block ?_ | (refine walkL_region fun K hK => ?_; simp (maxSteps := 4000000) only [go_sem]; refine hK _ ?_; clear hK K) | refine walkL_nil ?_ | refine walkL_ret ?_ | refine walkL_exit ?_ | refine blockA_here ?_ | refine blockA_other rfl ?_ | refine blockA_ret ?_ | refine blockA_normal ?_ | refine thenA_ret ?_ | refine thenA_exit ?_ | refine thenA_normal ?_)
        refine walkL_drawn (by kernel_rfl) (by kernel_rfl) fun K hK => ?_
        simp (maxSteps := 4000000) only [go_sem]
        refine ⟨by kernel_rfl, hK _ ?_⟩
        clear hK K
        repeat (first | refine walkL_seq ?_ | refine walkL_skip ?_ | refine walkL_block ?_ | (refine walkL_region fun K hK => ?_; simp (maxSteps := 4000000) only [go_sem]; refine hK _ ?_; clear hK K) | refine walkL_nil ?_ | refine walkL_ret ?_ | refine walkL_exit ?_ | refine blockA_here ?_ | refine blockA_other rfl ?_ | refine blockA_ret ?_ | refine blockA_normal ?_ | refine thenA_ret ?_ | refine thenA_exit ?_ | refine thenA_normal ?_)
        simp (maxSteps := 4000000) only [go_sem]
  · have eL : levelsE p burn m = openE p [burn] := by rw [levelsE, if_neg hz]
    have e1 : levelsP p burn m = ([], 0, openE p [burn]) := by rw [levelsP, eL, if_neg hz]
    rw [if_neg hz] at h44
    rw [e1]
    have q1 : (openE p [burn] == 0) = false := by simpa using hz
    have q2 : (openE p [burn] != 0) = true := by simpa using hz
    refine fn_walk 45 Try.call30 Try.func30 rfl (by decide) fun J => ?_
    simp (maxSteps := 4000000) only [go_sem, St.start, Try.ntmps30, Try.results30, Plant.cells]
    repeat (first | refine walkL_true rfl ?_ | refine walkL_false rfl ?_ | refine walkL_seq ?_ | refine walkL_skip ?_ | refine walkL_block ?_ | (refine walkL_region fun K hK => ?_; simp (maxSteps := 4000000) only [go_sem, q1, q2]; (repeat (first | (refine ⟨_, .lent (hf := h44) (hd := rfl) (hr := rfl), ?_⟩; simp (maxSteps := 4000000) only [go_sem, q1, q2]) | (refine ⟨_, .given (hf := h44) (hd := rfl) (ha := rfl), ?_⟩; simp (maxSteps := 4000000) only [go_sem, q1, q2]))); refine hK _ ?_; clear hK K) | refine walkL_nil ?_ | refine walkL_ret ?_ | refine walkL_exit ?_ | refine blockA_here ?_ | refine blockA_other rfl ?_ | refine blockA_ret ?_ | refine blockA_normal ?_ | refine thenA_ret ?_ | refine thenA_exit ?_ | refine thenA_normal ?_)
    simp (maxSteps := 4000000) only [go_sem]
    try rfl

def lastsP (p : Plant) (burn : List Int) : Int × Int := if openE p [burn] = 0 then ((hardF (gridOf p) burn).2, 0) else (0, openE p [burn])
def worstP (p : Plant) (burn : List Int) : List Sky × Int :=
  if openE p [burn] = 0 then (if (hardF (gridOf p) burn).2 = (gridOf p).hours then ([], 3) else ((hardF (gridOf p) burn).1, 0)) else ([], openE p [burn])

theorem f22 (p : Plant) (burn : List Int) (hs : PlantSmall p) (hb : burn.length < 2 ^ 30) : Fn Try.prog 22 [.agg p.cells, .sl (intRows burn)] (.tup [.i (lastsP p burn).1, .i (lastsP p burn).2]) := by
  have h44 := f44 p [burn] hs (by simp) (by simpa using hb)
  have e0 : listRows [burn] = [[.sl (intRows burn)]] := rfl
  rw [e0, Plant.cells] at h44
  by_cases hz : openE p [burn] = 0
  · obtain ⟨hz0, hbn⟩ := open_nil hz
    obtain ⟨H, hg, _⟩ := grid_ok hz0
    have hbl := burn_len hg (hbn burn (by simp))
    have h51 := f51 (gridOf p) H burn hg hbl
    rw [if_pos hz, hz] at h44
    have e1 : lastsP p burn = ((hardF (gridOf p) burn).2, 0) := by rw [lastsP, if_pos hz]
    rw [e1]
    obtain ⟨g, hgg⟩ : ∃ g, g = gridOf p := ⟨_, rfl⟩
    rw [← hgg] at h44 h51 ⊢
    rw [Grid.cells] at h44 h51
    refine fn_walk 27 Try.call22 Try.func22 rfl (by decide) fun J => ?_
    simp (maxSteps := 4000000) only [go_sem, St.start, Try.ntmps22, Try.results22, Plant.cells]
    repeat (first | refine walkL_true rfl ?_ | refine walkL_false rfl ?_ | refine walkL_seq ?_ | refine walkL_skip ?_ | refine walkL_block ?_ | (refine walkL_region fun K hK => ?_; simp (maxSteps := 4000000) only [go_sem]; (repeat (first | (refine ⟨_, .lent (hf := h44) (hd := rfl) (hr := rfl), ?_⟩; simp (maxSteps := 4000000) only [go_sem]) | (refine ⟨_, .lent (hf := h51) (hd := rfl) (hr := rfl), ?_⟩; simp (maxSteps := 4000000) only [go_sem]) | (refine ⟨_, .given (hf := h44) (hd := rfl) (ha := rfl), ?_⟩; simp (maxSteps := 4000000) only [go_sem]) | (refine ⟨_, .given (hf := h51) (hd := rfl) (ha := rfl), ?_⟩; simp (maxSteps := 4000000) only [go_sem]))); refine hK _ ?_; clear hK K) | refine walkL_nil ?_ | refine walkL_ret ?_ | refine walkL_exit ?_ | refine blockA_here ?_ | refine blockA_other rfl ?_ | refine blockA_ret ?_ | refine blockA_normal ?_ | refine thenA_ret ?_ | refine thenA_exit ?_ | refine thenA_normal ?_)
    simp (maxSteps := 4000000) only [go_sem]
  · have e1 : lastsP p burn = (0, openE p [burn]) := by rw [lastsP, if_neg hz]
    rw [if_neg hz] at h44
    rw [e1]
    have q2 : (openE p [burn] != 0) = true := by simpa using hz
    refine fn_walk 27 Try.call22 Try.func22 rfl (by decide) fun J => ?_
    simp (maxSteps := 4000000) only [go_sem, St.start, Try.ntmps22, Try.results22, Plant.cells]
    repeat (first | refine walkL_true rfl ?_ | refine walkL_false rfl ?_ | refine walkL_seq ?_ | refine walkL_skip ?_ | refine walkL_block ?_ | (refine walkL_region fun K hK => ?_; simp (maxSteps := 4000000) only [go_sem, q2]; (repeat (first | (refine ⟨_, .lent (hf := h44) (hd := rfl) (hr := rfl), ?_⟩; simp (maxSteps := 4000000) only [go_sem, q2]) | (refine ⟨_, .given (hf := h44) (hd := rfl) (ha := rfl), ?_⟩; simp (maxSteps := 4000000) only [go_sem, q2]))); refine hK _ ?_; clear hK K) | refine walkL_nil ?_ | refine walkL_ret ?_ | refine walkL_exit ?_ | refine blockA_here ?_ | refine blockA_other rfl ?_ | refine blockA_ret ?_ | refine blockA_normal ?_ | refine thenA_ret ?_ | refine thenA_exit ?_ | refine thenA_normal ?_)
    simp (maxSteps := 4000000) only [go_sem]

theorem f38 (p : Plant) (burn : List Int) (hs : PlantSmall p) (hb : burn.length < 2 ^ 30) : Fn Try.prog 38 [.agg p.cells, .sl (intRows burn)] (.tup [.sl (skyRows (worstP p burn).1), .i (worstP p burn).2]) := by
  have h44 := f44 p [burn] hs (by simp) (by simpa using hb)
  have e0 : listRows [burn] = [[.sl (intRows burn)]] := rfl
  rw [e0, Plant.cells] at h44
  by_cases hz : openE p [burn] = 0
  · obtain ⟨hz0, hbn⟩ := open_nil hz
    obtain ⟨H, hg, _⟩ := grid_ok hz0
    have hbl := burn_len hg (hbn burn (by simp))
    have h51 := f51 (gridOf p) H burn hg hbl
    rw [if_pos hz, hz] at h44
    rw [worstP, if_pos hz]
    obtain ⟨g, hgg⟩ : ∃ g, g = gridOf p := ⟨_, rfl⟩
    rw [← hgg] at h44 h51 ⊢
    rw [Grid.cells] at h44 h51
    by_cases hf : (hardF g burn).2 = g.hours
    · rw [if_pos hf]
      have q : ((hardF g burn).2 == g.hours) = true := by simpa using hf
      refine fn_walk 33 Try.call38 Try.func38 rfl (by decide) fun J => ?_
      simp (maxSteps := 4000000) only [go_sem, St.start, Try.ntmps38, Try.results38, Plant.cells]
      repeat (first | refine walkL_true rfl ?_ | refine walkL_false rfl ?_ | refine walkL_seq ?_ | refine walkL_skip ?_ | refine walkL_block ?_ | (refine walkL_region fun K hK => ?_; simp (maxSteps := 4000000) only [go_sem, q]; (repeat (first | (refine ⟨_, .lent (hf := h44) (hd := rfl) (hr := rfl), ?_⟩; simp (maxSteps := 4000000) only [go_sem, q]) | (refine ⟨_, .lent (hf := h51) (hd := rfl) (hr := rfl), ?_⟩; simp (maxSteps := 4000000) only [go_sem, q]) | (refine ⟨_, .given (hf := h44) (hd := rfl) (ha := rfl), ?_⟩; simp (maxSteps := 4000000) only [go_sem, q]) | (refine ⟨_, .given (hf := h51) (hd := rfl) (ha := rfl), ?_⟩; simp (maxSteps := 4000000) only [go_sem, q]))); refine hK _ ?_; clear hK K) | refine walkL_nil ?_ | refine walkL_ret ?_ | refine walkL_exit ?_ | refine blockA_here ?_ | refine blockA_other rfl ?_ | refine blockA_ret ?_ | refine blockA_normal ?_ | refine thenA_ret ?_ | refine thenA_exit ?_ | refine thenA_normal ?_)
      simp (maxSteps := 4000000) only [go_sem]
      try rfl
    · rw [if_neg hf]
      have q : ((hardF g burn).2 == g.hours) = false := by simpa using hf
      refine fn_walk 33 Try.call38 Try.func38 rfl (by decide) fun J => ?_
      simp (maxSteps := 4000000) only [go_sem, St.start, Try.ntmps38, Try.results38, Plant.cells]
      repeat (first | refine walkL_true rfl ?_ | refine walkL_false rfl ?_ | refine walkL_seq ?_ | refine walkL_skip ?_ | refine walkL_block ?_ | (refine walkL_region fun K hK => ?_; simp (maxSteps := 4000000) only [go_sem, q]; (repeat (first | (refine ⟨_, .lent (hf := h44) (hd := rfl) (hr := rfl), ?_⟩; simp (maxSteps := 4000000) only [go_sem, q]) | (refine ⟨_, .lent (hf := h51) (hd := rfl) (hr := rfl), ?_⟩; simp (maxSteps := 4000000) only [go_sem, q]) | (refine ⟨_, .given (hf := h44) (hd := rfl) (ha := rfl), ?_⟩; simp (maxSteps := 4000000) only [go_sem, q]) | (refine ⟨_, .given (hf := h51) (hd := rfl) (ha := rfl), ?_⟩; simp (maxSteps := 4000000) only [go_sem, q]))); refine hK _ ?_; clear hK K) | refine walkL_nil ?_ | refine walkL_ret ?_ | refine walkL_exit ?_ | refine blockA_here ?_ | refine blockA_other rfl ?_ | refine blockA_ret ?_ | refine blockA_normal ?_ | refine thenA_ret ?_ | refine thenA_exit ?_ | refine thenA_normal ?_)
      simp (maxSteps := 4000000) only [go_sem]
  · rw [worstP, if_neg hz]
    rw [if_neg hz] at h44
    have q2 : (openE p [burn] != 0) = true := by simpa using hz
    refine fn_walk 33 Try.call38 Try.func38 rfl (by decide) fun J => ?_
    simp (maxSteps := 4000000) only [go_sem, St.start, Try.ntmps38, Try.results38, Plant.cells]
    repeat (first | refine walkL_true rfl ?_ | refine walkL_false rfl ?_ | refine walkL_seq ?_ | refine walkL_skip ?_ | refine walkL_block ?_ | (refine walkL_region fun K hK => ?_; simp (maxSteps := 4000000) only [go_sem, q2]; (repeat (first | (refine ⟨_, .lent (hf := h44) (hd := rfl) (hr := rfl), ?_⟩; simp (maxSteps := 4000000) only [go_sem, q2]) | (refine ⟨_, .given (hf := h44) (hd := rfl) (ha := rfl), ?_⟩; simp (maxSteps := 4000000) only [go_sem, q2]))); refine hK _ ?_; clear hK K) | refine walkL_nil ?_ | refine walkL_ret ?_ | refine walkL_exit ?_ | refine blockA_here ?_ | refine blockA_other rfl ?_ | refine blockA_ret ?_ | refine blockA_normal ?_ | refine thenA_ret ?_ | refine thenA_exit ?_ | refine thenA_normal ?_)
    simp (maxSteps := 4000000) only [go_sem]
    try rfl
end Go.Ab
