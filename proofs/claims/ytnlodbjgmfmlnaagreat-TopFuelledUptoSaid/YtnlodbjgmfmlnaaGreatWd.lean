/- A walk engine over abstract states, and the contracts of the functions that the statement reaches: part 4. -/
import Derived.Test.YtnlodbjgmfmlnaaGreatWc
set_option linter.unusedVariables false
set_option linter.unusedSimpArgs false
set_option linter.unnecessarySimpa false
namespace Go.Ab
open Go.RowKit Go.Proofs
set_option maxHeartbeats 8000000
set_option maxRecDepth 20000
attribute [local irreducible] WalkL Walk
structure PlantSmall (p : Plant) : Prop where
  fore : ForeSmall p.scen
  seen : p.seen.length < 2 ^ 30
  sun : p.sun.length < 2 ^ 30
  needs : p.needs.length < 2 ^ 30
def hoursOf (p : Plant) : Int := (hd0 p.scen).length
def gridOf (p : Plant) : Grid := ⟨p, scensOf (possL p.scen p.seen), hoursOf p⟩
def plantBad (p : Plant) (H : Int) : Bool :=
  !powerB H p.sun || (!powerB H p.needs || (!withinB p.gain 0 100 || (!withinB p.start 0 p.stop || (decide (p.stop > 200) ||
  (!withinB p.capacity 0 100000 || (!withinB p.charge 0 p.capacity || (!withinB p.reserve 0 p.capacity ||
  (!withinB p.gas 0 10000 || (!withinB p.rate 0 10 || !withinB p.units 0 200)))))))))
def openE (p : Plant) (burns : List (List Int)) : Int :=
  if lookF p.scen p.seen 0 true = 0 then (if plantBad p (hoursOf p) then 100 else if burns.any (fun l => !burnB (gridOf p) l) then 101 else 0) else lookF p.scen p.seen 0 true
theorem poss_get {seen : List Sight} : ∀ (F : List (List Hour)) (j i : Nat) (k : Nat) (l' : List Hour), (possFrom seen F j)[i]? = some (k, l') → ∃ l, j ≤ k ∧ F[k - j]? = some l ∧ l' = seenHours seen l ∧ agreesB seen l = true
  | [], _, _, _, _, h => by simp [possFrom] at h
  | l :: F, j, i, k, l', h => by
    rw [possFrom] at h
    have rest : ∀ i : Nat, (possFrom seen F (j + 1))[i]? = some (k, l') → ∃ l2, j ≤ k ∧ (l :: F)[k - j]? = some l2 ∧ l' = seenHours seen l2 ∧ agreesB seen l2 = true := by
      intro i h
      obtain ⟨l2, h1, h2, h3, h4⟩ := poss_get F (j + 1) i k l' h
      refine ⟨l2, by omega, ?_, h3, h4⟩
      rw [show k - j = (k - (j + 1)) + 1 by omega, List.getElem?_cons_succ]
      exact h2
    split at h
    · rename_i ha
      cases i with
      | zero => simp at h; obtain ⟨rfl, rfl⟩ := h; exact ⟨l, Nat.le_refl _, by simp, rfl, ha⟩
      | succ i => exact rest i (by simpa using h)
    · exact rest i h
theorem look_zero {F : List (List Hour)} {seen : List Sight} (h : lookF F seen 0 true = 0) : ForeGood F ∧ sightsB (hd0 F).length seen = true ∧ possL F seen ≠ [] := by
  unfold lookF at h
  cases hb : badF F with
  | true => rw [hb, if_pos rfl] at h; cases h
  | false =>
    rw [hb] at h
    simp only [Bool.false_eq_true, if_false, if_true] at h
    cases hs : sightsB (hd0 F).length seen with
    | false => rw [hs] at h; simp at h
    | true =>
      rw [hs] at h
      simp only [if_true] at h
      cases hp : possL F seen with
      | nil => rw [hp] at h; simp at h
      | cons x xs => exact ⟨fore_iff.1 hb, rfl, by simp⟩
theorem openE_bad {p : Plant} (burns : List (List Int)) (h : lookF p.scen p.seen 0 true = 0) (hb : plantBad p (hoursOf p) = true) : openE p burns = 100 := by
  rw [openE, if_pos h, if_pos hb]
theorem zf77 (p : Plant) (burns : List (List Int)) (hs : PlantSmall p) (hbl : burns.length < 2 ^ 30) (hbs : ∀ l ∈ burns, l.length < 2 ^ 30) :
    Fn Tryz.prog 77 [.agg p.cells, .sl (listRows burns)] (.tup [if openE p burns = 0 then .ptr (gridOf p).cells 0 else .nilptr, .i (openE p burns)]) := by
  have h76 := zf34 p.scen p.seen hs.fore hs.seen
  refine fn_walk 148 Tryz.call77 Tryz.func77 rfl (by decide) fun J => ?_
  simp (maxSteps := 4000000) only [go_sem, St.start, Tryz.ntmps77, Tryz.results77, Plant.cells]
  by_cases hlk : lookF p.scen p.seen 0 true = 0
  · rw [if_pos hlk, hlk] at h76
    obtain ⟨hg, hsi, hpn⟩ := look_zero hlk
    have hF := hg.scen
    have hH := hg.hours
    have h0 : p.scen[0]? = some (hd0 p.scen) := headD_get (by omega)
    obtain ⟨H0, hH0⟩ : ∃ H0, H0 = hd0 p.scen := ⟨_, rfl⟩
    have hhr : hoursOf p = (H0.length : Int) := by rw [hoursOf, hH0]
    rw [← hH0] at h0 hH hsi
    have g0 := scenRows_at h0
    obtain ⟨s1, s2, s3⟩ := sights_spec hsi
    have h77 := fun l hl => zf117 ⟨p, [], (H0.length : Int)⟩ l hl
    have h77a := h77 p.sun hs.sun
    have h77b := h77 p.needs hs.needs
    have e0 : scenRows [] = [] := rfl
    simp only [Grid.cells, e0] at h77a h77b
    have k1 := zf119 p.gain 0 100
    have k2 := zf119 p.start 0 p.stop
    have k4 := zf119 p.capacity 0 100000
    have k5 := zf119 p.charge 0 p.capacity
    have k6 := zf119 p.reserve 0 p.capacity
    have k7 := zf119 p.gas 0 10000
    have k8 := zf119 p.rate 0 10
    have k9 := zf119 p.units 0 200
    repeat (first | refine walkL_true rfl ?_ | refine walkL_false rfl ?_ | refine walkL_seq ?_ | refine walkL_skip ?_ | refine walkL_block ?_ | (refine walkL_region fun K hK => ?_; simp (maxSteps := 4000000) only [go_sem]; (repeat (first | (refine ⟨_, .lent (hf := h76) (hd := rfl) (hr := rfl), ?_⟩; simp (maxSteps := 4000000) only [go_sem]) | (refine ⟨_, .given (hf := h76) (hd := rfl) (ha := rfl), ?_⟩; simp (maxSteps := 4000000) only [go_sem]))); refine hK _ ?_; clear hK K) | refine walkL_nil ?_ | refine walkL_ret ?_ | refine walkL_exit ?_ | refine blockA_here ?_ | refine blockA_other rfl ?_ | refine blockA_ret ?_ | refine blockA_normal ?_ | refine thenA_ret ?_ | refine thenA_exit ?_ | refine thenA_normal ?_)
    refine walkL_drawn (by kernel_rfl) (by kernel_rfl) fun K hK => ?_
    simp (maxSteps := 4000000) only [go_sem, g0]
    refine ⟨by kernel_rfl, hK _ ?_⟩
    clear hK K
    repeat (first | refine walkL_true rfl ?_ | refine walkL_false rfl ?_ | refine walkL_seq ?_ | refine walkL_skip ?_ | refine walkL_block ?_ | (refine walkL_region fun K hK => ?_; simp (maxSteps := 4000000) only [go_sem]; refine hK _ ?_; clear hK K) | refine walkL_nil ?_ | refine walkL_ret ?_ | refine walkL_exit ?_ | refine blockA_here ?_ | refine blockA_other rfl ?_ | refine blockA_ret ?_ | refine blockA_normal ?_ | refine thenA_ret ?_ | refine thenA_exit ?_ | refine thenA_normal ?_)
    cases q1 : powerB (H0.length : Int) p.sun
    · rw [q1] at h77a
      have e := openE_bad burns hlk (by simp [plantBad, hhr, q1])
      rw [e, if_neg (by decide)]
      repeat (first | refine walkL_true rfl ?_ | refine walkL_false rfl ?_ | refine walkL_seq ?_ | refine walkL_skip ?_ | refine walkL_block ?_ | (refine walkL_region fun K hK => ?_; simp (maxSteps := 4000000) only [go_sem]; (repeat (first | (refine ⟨_, .lent (hf := h77a) (hd := rfl) (hr := rfl), ?_⟩; simp (maxSteps := 4000000) only [go_sem]) | (refine ⟨_, .given (hf := h77a) (hd := rfl) (ha := rfl), ?_⟩; simp (maxSteps := 4000000) only [go_sem]))); refine hK _ ?_; clear hK K) | refine walkL_nil ?_ | refine walkL_ret ?_ | refine walkL_exit ?_ | refine blockA_here ?_ | refine blockA_other rfl ?_ | refine blockA_ret ?_ | refine blockA_normal ?_ | refine thenA_ret ?_ | refine thenA_exit ?_ | refine thenA_normal ?_)
      simp (maxSteps := 4000000) only [go_sem]
    rw [q1] at h77a
    repeat (first | refine walkL_true rfl ?_ | refine walkL_false rfl ?_ | refine walkL_seq ?_ | refine walkL_skip ?_ | refine walkL_block ?_ | (refine walkL_region fun K hK => ?_; simp (maxSteps := 4000000) only [go_sem]; (repeat (first | (refine ⟨_, .lent (hf := h77a) (hd := rfl) (hr := rfl), ?_⟩; simp (maxSteps := 4000000) only [go_sem]) | (refine ⟨_, .given (hf := h77a) (hd := rfl) (ha := rfl), ?_⟩; simp (maxSteps := 4000000) only [go_sem]))); refine hK _ ?_; clear hK K) | refine walkL_nil ?_ | refine walkL_ret ?_ | refine walkL_exit ?_ | refine blockA_here ?_ | refine blockA_other rfl ?_ | refine blockA_ret ?_ | refine blockA_normal ?_ | refine thenA_ret ?_ | refine thenA_exit ?_ | refine thenA_normal ?_)
    cases q2 : powerB (H0.length : Int) p.needs
    · rw [q2] at h77b
      have e := openE_bad burns hlk (by simp [plantBad, hhr, q2])
      rw [e, if_neg (by decide)]
      repeat (first | refine walkL_true rfl ?_ | refine walkL_false rfl ?_ | refine walkL_seq ?_ | refine walkL_skip ?_ | refine walkL_block ?_ | (refine walkL_region fun K hK => ?_; simp (maxSteps := 4000000) only [go_sem]; (repeat (first | (refine ⟨_, .lent (hf := h77b) (hd := rfl) (hr := rfl), ?_⟩; simp (maxSteps := 4000000) only [go_sem]) | (refine ⟨_, .given (hf := h77b) (hd := rfl) (ha := rfl), ?_⟩; simp (maxSteps := 4000000) only [go_sem]))); refine hK _ ?_; clear hK K) | refine walkL_nil ?_ | refine walkL_ret ?_ | refine walkL_exit ?_ | refine blockA_here ?_ | refine blockA_other rfl ?_ | refine blockA_ret ?_ | refine blockA_normal ?_ | refine thenA_ret ?_ | refine thenA_exit ?_ | refine thenA_normal ?_)
      simp (maxSteps := 4000000) only [go_sem]
    rw [q2] at h77b
    repeat (first | refine walkL_true rfl ?_ | refine walkL_false rfl ?_ | refine walkL_seq ?_ | refine walkL_skip ?_ | refine walkL_block ?_ | (refine walkL_region fun K hK => ?_; simp (maxSteps := 4000000) only [go_sem]; (repeat (first | (refine ⟨_, .lent (hf := h77b) (hd := rfl) (hr := rfl), ?_⟩; simp (maxSteps := 4000000) only [go_sem]) | (refine ⟨_, .given (hf := h77b) (hd := rfl) (ha := rfl), ?_⟩; simp (maxSteps := 4000000) only [go_sem]))); refine hK _ ?_; clear hK K) | refine walkL_nil ?_ | refine walkL_ret ?_ | refine walkL_exit ?_ | refine blockA_here ?_ | refine blockA_other rfl ?_ | refine blockA_ret ?_ | refine blockA_normal ?_ | refine thenA_ret ?_ | refine thenA_exit ?_ | refine thenA_normal ?_)
    cases q3 : withinB p.gain 0 100
    · rw [q3] at k1
      have e := openE_bad burns hlk (by simp [plantBad, hhr, q3])
      rw [e, if_neg (by decide)]
      repeat (first | refine walkL_true rfl ?_ | refine walkL_false rfl ?_ | refine walkL_seq ?_ | refine walkL_skip ?_ | refine walkL_block ?_ | (refine walkL_region fun K hK => ?_; simp (maxSteps := 4000000) only [go_sem]; (repeat (first | (refine ⟨_, .lent (hf := k1) (hd := rfl) (hr := rfl), ?_⟩; simp (maxSteps := 4000000) only [go_sem]) | (refine ⟨_, .given (hf := k1) (hd := rfl) (ha := rfl), ?_⟩; simp (maxSteps := 4000000) only [go_sem]))); refine hK _ ?_; clear hK K) | refine walkL_nil ?_ | refine walkL_ret ?_ | refine walkL_exit ?_ | refine blockA_here ?_ | refine blockA_other rfl ?_ | refine blockA_ret ?_ | refine blockA_normal ?_ | refine thenA_ret ?_ | refine thenA_exit ?_ | refine thenA_normal ?_)
      simp (maxSteps := 4000000) only [go_sem]
    rw [q3] at k1
    repeat (first | refine walkL_true rfl ?_ | refine walkL_false rfl ?_ | refine walkL_seq ?_ | refine walkL_skip ?_ | refine walkL_block ?_ | (refine walkL_region fun K hK => ?_; simp (maxSteps := 4000000) only [go_sem]; (repeat (first | (refine ⟨_, .lent (hf := k1) (hd := rfl) (hr := rfl), ?_⟩; simp (maxSteps := 4000000) only [go_sem]) | (refine ⟨_, .given (hf := k1) (hd := rfl) (ha := rfl), ?_⟩; simp (maxSteps := 4000000) only [go_sem]))); refine hK _ ?_; clear hK K) | refine walkL_nil ?_ | refine walkL_ret ?_ | refine walkL_exit ?_ | refine blockA_here ?_ | refine blockA_other rfl ?_ | refine blockA_ret ?_ | refine blockA_normal ?_ | refine thenA_ret ?_ | refine thenA_exit ?_ | refine thenA_normal ?_)
    cases q4 : withinB p.start 0 p.stop
    · rw [q4] at k2
      have e := openE_bad burns hlk (by simp [plantBad, hhr, q4])
      rw [e, if_neg (by decide)]
      repeat (first | refine walkL_true rfl ?_ | refine walkL_false rfl ?_ | refine walkL_seq ?_ | refine walkL_skip ?_ | refine walkL_block ?_ | (refine walkL_region fun K hK => ?_; simp (maxSteps := 4000000) only [go_sem]; (repeat (first | (refine ⟨_, .lent (hf := k2) (hd := rfl) (hr := rfl), ?_⟩; simp (maxSteps := 4000000) only [go_sem]) | (refine ⟨_, .given (hf := k2) (hd := rfl) (ha := rfl), ?_⟩; simp (maxSteps := 4000000) only [go_sem]))); refine hK _ ?_; clear hK K) | refine walkL_nil ?_ | refine walkL_ret ?_ | refine walkL_exit ?_ | refine blockA_here ?_ | refine blockA_other rfl ?_ | refine blockA_ret ?_ | refine blockA_normal ?_ | refine thenA_ret ?_ | refine thenA_exit ?_ | refine thenA_normal ?_)
      simp (maxSteps := 4000000) only [go_sem]
    rw [q4] at k2
    repeat (first | refine walkL_true rfl ?_ | refine walkL_false rfl ?_ | refine walkL_seq ?_ | refine walkL_skip ?_ | refine walkL_block ?_ | (refine walkL_region fun K hK => ?_; simp (maxSteps := 4000000) only [go_sem]; (repeat (first | (refine ⟨_, .lent (hf := k2) (hd := rfl) (hr := rfl), ?_⟩; simp (maxSteps := 4000000) only [go_sem]) | (refine ⟨_, .given (hf := k2) (hd := rfl) (ha := rfl), ?_⟩; simp (maxSteps := 4000000) only [go_sem]))); refine hK _ ?_; clear hK K) | refine walkL_nil ?_ | refine walkL_ret ?_ | refine walkL_exit ?_ | refine blockA_here ?_ | refine blockA_other rfl ?_ | refine blockA_ret ?_ | refine blockA_normal ?_ | refine thenA_ret ?_ | refine thenA_exit ?_ | refine thenA_normal ?_)
    by_cases q5 : p.stop > 200
    · have e := openE_bad burns hlk (by simp [plantBad, hhr, q5])
      have hd : decide (p.stop > 200) = true := by simpa using q5
      rw [e, if_neg (by decide)]
      simp (maxSteps := 4000000) only [go_sem, hd]
      repeat (first | refine walkL_true rfl ?_ | refine walkL_false rfl ?_ | refine walkL_seq ?_ | refine walkL_skip ?_ | refine walkL_block ?_ | (refine walkL_region fun K hK => ?_; simp (maxSteps := 4000000) only [go_sem]; refine hK _ ?_; clear hK K) | refine walkL_nil ?_ | refine walkL_ret ?_ | refine walkL_exit ?_ | refine blockA_here ?_ | refine blockA_other rfl ?_ | refine blockA_ret ?_ | refine blockA_normal ?_ | refine thenA_ret ?_ | refine thenA_exit ?_ | refine thenA_normal ?_)
      simp (maxSteps := 4000000) only [go_sem]
    have hd : decide (p.stop > 200) = false := by simpa using q5
    simp (maxSteps := 4000000) only [go_sem, hd]
    repeat (first | refine walkL_true rfl ?_ | refine walkL_false rfl ?_ | refine walkL_seq ?_ | refine walkL_skip ?_ | refine walkL_block ?_ | (refine walkL_region fun K hK => ?_; simp (maxSteps := 4000000) only [go_sem]; refine hK _ ?_; clear hK K) | refine walkL_nil ?_ | refine walkL_ret ?_ | refine walkL_exit ?_ | refine blockA_here ?_ | refine blockA_other rfl ?_ | refine blockA_ret ?_ | refine blockA_normal ?_ | refine thenA_ret ?_ | refine thenA_exit ?_ | refine thenA_normal ?_)
    cases q6 : withinB p.capacity 0 100000
    · rw [q6] at k4
      have e := openE_bad burns hlk (by simp [plantBad, hhr, q6])
      rw [e, if_neg (by decide)]
      repeat (first | refine walkL_true rfl ?_ | refine walkL_false rfl ?_ | refine walkL_seq ?_ | refine walkL_skip ?_ | refine walkL_block ?_ | (refine walkL_region fun K hK => ?_; simp (maxSteps := 4000000) only [go_sem]; (repeat (first | (refine ⟨_, .lent (hf := k4) (hd := rfl) (hr := rfl), ?_⟩; simp (maxSteps := 4000000) only [go_sem]) | (refine ⟨_, .given (hf := k4) (hd := rfl) (ha := rfl), ?_⟩; simp (maxSteps := 4000000) only [go_sem]))); refine hK _ ?_; clear hK K) | refine walkL_nil ?_ | refine walkL_ret ?_ | refine walkL_exit ?_ | refine blockA_here ?_ | refine blockA_other rfl ?_ | refine blockA_ret ?_ | refine blockA_normal ?_ | refine thenA_ret ?_ | refine thenA_exit ?_ | refine thenA_normal ?_)
      simp (maxSteps := 4000000) only [go_sem]
    rw [q6] at k4
    repeat (first | refine walkL_true rfl ?_ | refine walkL_false rfl ?_ | refine walkL_seq ?_ | refine walkL_skip ?_ | refine walkL_block ?_ | (refine walkL_region fun K hK => ?_; simp (maxSteps := 4000000) only [go_sem]; (repeat (first | (refine ⟨_, .lent (hf := k4) (hd := rfl) (hr := rfl), ?_⟩; simp (maxSteps := 4000000) only [go_sem]) | (refine ⟨_, .given (hf := k4) (hd := rfl) (ha := rfl), ?_⟩; simp (maxSteps := 4000000) only [go_sem]))); refine hK _ ?_; clear hK K) | refine walkL_nil ?_ | refine walkL_ret ?_ | refine walkL_exit ?_ | refine blockA_here ?_ | refine blockA_other rfl ?_ | refine blockA_ret ?_ | refine blockA_normal ?_ | refine thenA_ret ?_ | refine thenA_exit ?_ | refine thenA_normal ?_)
    cases q7 : withinB p.charge 0 p.capacity
    · rw [q7] at k5
      have e := openE_bad burns hlk (by simp [plantBad, hhr, q7])
      rw [e, if_neg (by decide)]
      repeat (first | refine walkL_true rfl ?_ | refine walkL_false rfl ?_ | refine walkL_seq ?_ | refine walkL_skip ?_ | refine walkL_block ?_ | (refine walkL_region fun K hK => ?_; simp (maxSteps := 4000000) only [go_sem]; (repeat (first | (refine ⟨_, .lent (hf := k5) (hd := rfl) (hr := rfl), ?_⟩; simp (maxSteps := 4000000) only [go_sem]) | (refine ⟨_, .given (hf := k5) (hd := rfl) (ha := rfl), ?_⟩; simp (maxSteps := 4000000) only [go_sem]))); refine hK _ ?_; clear hK K) | refine walkL_nil ?_ | refine walkL_ret ?_ | refine walkL_exit ?_ | refine blockA_here ?_ | refine blockA_other rfl ?_ | refine blockA_ret ?_ | refine blockA_normal ?_ | refine thenA_ret ?_ | refine thenA_exit ?_ | refine thenA_normal ?_)
      simp (maxSteps := 4000000) only [go_sem]
    rw [q7] at k5
    repeat (first | refine walkL_true rfl ?_ | refine walkL_false rfl ?_ | refine walkL_seq ?_ | refine walkL_skip ?_ | refine walkL_block ?_ | (refine walkL_region fun K hK => ?_; simp (maxSteps := 4000000) only [go_sem]; (repeat (first | (refine ⟨_, .lent (hf := k5) (hd := rfl) (hr := rfl), ?_⟩; simp (maxSteps := 4000000) only [go_sem]) | (refine ⟨_, .given (hf := k5) (hd := rfl) (ha := rfl), ?_⟩; simp (maxSteps := 4000000) only [go_sem]))); refine hK _ ?_; clear hK K) | refine walkL_nil ?_ | refine walkL_ret ?_ | refine walkL_exit ?_ | refine blockA_here ?_ | refine blockA_other rfl ?_ | refine blockA_ret ?_ | refine blockA_normal ?_ | refine thenA_ret ?_ | refine thenA_exit ?_ | refine thenA_normal ?_)
    cases q8 : withinB p.reserve 0 p.capacity
    · rw [q8] at k6
      have e := openE_bad burns hlk (by simp [plantBad, hhr, q8])
      rw [e, if_neg (by decide)]
      repeat (first | refine walkL_true rfl ?_ | refine walkL_false rfl ?_ | refine walkL_seq ?_ | refine walkL_skip ?_ | refine walkL_block ?_ | (refine walkL_region fun K hK => ?_; simp (maxSteps := 4000000) only [go_sem]; (repeat (first | (refine ⟨_, .lent (hf := k6) (hd := rfl) (hr := rfl), ?_⟩; simp (maxSteps := 4000000) only [go_sem]) | (refine ⟨_, .given (hf := k6) (hd := rfl) (ha := rfl), ?_⟩; simp (maxSteps := 4000000) only [go_sem]))); refine hK _ ?_; clear hK K) | refine walkL_nil ?_ | refine walkL_ret ?_ | refine walkL_exit ?_ | refine blockA_here ?_ | refine blockA_other rfl ?_ | refine blockA_ret ?_ | refine blockA_normal ?_ | refine thenA_ret ?_ | refine thenA_exit ?_ | refine thenA_normal ?_)
      simp (maxSteps := 4000000) only [go_sem]
    rw [q8] at k6
    repeat (first | refine walkL_true rfl ?_ | refine walkL_false rfl ?_ | refine walkL_seq ?_ | refine walkL_skip ?_ | refine walkL_block ?_ | (refine walkL_region fun K hK => ?_; simp (maxSteps := 4000000) only [go_sem]; (repeat (first | (refine ⟨_, .lent (hf := k6) (hd := rfl) (hr := rfl), ?_⟩; simp (maxSteps := 4000000) only [go_sem]) | (refine ⟨_, .given (hf := k6) (hd := rfl) (ha := rfl), ?_⟩; simp (maxSteps := 4000000) only [go_sem]))); refine hK _ ?_; clear hK K) | refine walkL_nil ?_ | refine walkL_ret ?_ | refine walkL_exit ?_ | refine blockA_here ?_ | refine blockA_other rfl ?_ | refine blockA_ret ?_ | refine blockA_normal ?_ | refine thenA_ret ?_ | refine thenA_exit ?_ | refine thenA_normal ?_)
    cases q9 : withinB p.gas 0 10000
    · rw [q9] at k7
      have e := openE_bad burns hlk (by simp [plantBad, hhr, q9])
      rw [e, if_neg (by decide)]
      repeat (first | refine walkL_true rfl ?_ | refine walkL_false rfl ?_ | refine walkL_seq ?_ | refine walkL_skip ?_ | refine walkL_block ?_ | (refine walkL_region fun K hK => ?_; simp (maxSteps := 4000000) only [go_sem]; (repeat (first | (refine ⟨_, .lent (hf := k7) (hd := rfl) (hr := rfl), ?_⟩; simp (maxSteps := 4000000) only [go_sem]) | (refine ⟨_, .given (hf := k7) (hd := rfl) (ha := rfl), ?_⟩; simp (maxSteps := 4000000) only [go_sem]))); refine hK _ ?_; clear hK K) | refine walkL_nil ?_ | refine walkL_ret ?_ | refine walkL_exit ?_ | refine blockA_here ?_ | refine blockA_other rfl ?_ | refine blockA_ret ?_ | refine blockA_normal ?_ | refine thenA_ret ?_ | refine thenA_exit ?_ | refine thenA_normal ?_)
      simp (maxSteps := 4000000) only [go_sem]
    rw [q9] at k7
    repeat (first | refine walkL_true rfl ?_ | refine walkL_false rfl ?_ | refine walkL_seq ?_ | refine walkL_skip ?_ | refine walkL_block ?_ | (refine walkL_region fun K hK => ?_; simp (maxSteps := 4000000) only [go_sem]; (repeat (first | (refine ⟨_, .lent (hf := k7) (hd := rfl) (hr := rfl), ?_⟩; simp (maxSteps := 4000000) only [go_sem]) | (refine ⟨_, .given (hf := k7) (hd := rfl) (ha := rfl), ?_⟩; simp (maxSteps := 4000000) only [go_sem]))); refine hK _ ?_; clear hK K) | refine walkL_nil ?_ | refine walkL_ret ?_ | refine walkL_exit ?_ | refine blockA_here ?_ | refine blockA_other rfl ?_ | refine blockA_ret ?_ | refine blockA_normal ?_ | refine thenA_ret ?_ | refine thenA_exit ?_ | refine thenA_normal ?_)
    cases q10 : withinB p.rate 0 10
    · rw [q10] at k8
      have e := openE_bad burns hlk (by simp [plantBad, hhr, q10])
      rw [e, if_neg (by decide)]
      repeat (first | refine walkL_true rfl ?_ | refine walkL_false rfl ?_ | refine walkL_seq ?_ | refine walkL_skip ?_ | refine walkL_block ?_ | (refine walkL_region fun K hK => ?_; simp (maxSteps := 4000000) only [go_sem]; (repeat (first | (refine ⟨_, .lent (hf := k8) (hd := rfl) (hr := rfl), ?_⟩; simp (maxSteps := 4000000) only [go_sem]) | (refine ⟨_, .given (hf := k8) (hd := rfl) (ha := rfl), ?_⟩; simp (maxSteps := 4000000) only [go_sem]))); refine hK _ ?_; clear hK K) | refine walkL_nil ?_ | refine walkL_ret ?_ | refine walkL_exit ?_ | refine blockA_here ?_ | refine blockA_other rfl ?_ | refine blockA_ret ?_ | refine blockA_normal ?_ | refine thenA_ret ?_ | refine thenA_exit ?_ | refine thenA_normal ?_)
      simp (maxSteps := 4000000) only [go_sem]
    rw [q10] at k8
    repeat (first | refine walkL_true rfl ?_ | refine walkL_false rfl ?_ | refine walkL_seq ?_ | refine walkL_skip ?_ | refine walkL_block ?_ | (refine walkL_region fun K hK => ?_; simp (maxSteps := 4000000) only [go_sem]; (repeat (first | (refine ⟨_, .lent (hf := k8) (hd := rfl) (hr := rfl), ?_⟩; simp (maxSteps := 4000000) only [go_sem]) | (refine ⟨_, .given (hf := k8) (hd := rfl) (ha := rfl), ?_⟩; simp (maxSteps := 4000000) only [go_sem]))); refine hK _ ?_; clear hK K) | refine walkL_nil ?_ | refine walkL_ret ?_ | refine walkL_exit ?_ | refine blockA_here ?_ | refine blockA_other rfl ?_ | refine blockA_ret ?_ | refine blockA_normal ?_ | refine thenA_ret ?_ | refine thenA_exit ?_ | refine thenA_normal ?_)
    cases q11 : withinB p.units 0 200
    · rw [q11] at k9
      have e := openE_bad burns hlk (by simp [plantBad, hhr, q11])
      rw [e, if_neg (by decide)]
      repeat (first | refine walkL_true rfl ?_ | refine walkL_false rfl ?_ | refine walkL_seq ?_ | refine walkL_skip ?_ | refine walkL_block ?_ | (refine walkL_region fun K hK => ?_; simp (maxSteps := 4000000) only [go_sem]; (repeat (first | (refine ⟨_, .lent (hf := k9) (hd := rfl) (hr := rfl), ?_⟩; simp (maxSteps := 4000000) only [go_sem]) | (refine ⟨_, .given (hf := k9) (hd := rfl) (ha := rfl), ?_⟩; simp (maxSteps := 4000000) only [go_sem]))); refine hK _ ?_; clear hK K) | refine walkL_nil ?_ | refine walkL_ret ?_ | refine walkL_exit ?_ | refine blockA_here ?_ | refine blockA_other rfl ?_ | refine blockA_ret ?_ | refine blockA_normal ?_ | refine thenA_ret ?_ | refine thenA_exit ?_ | refine thenA_normal ?_)
      simp (maxSteps := 4000000) only [go_sem]
    rw [q11] at k9
    repeat (first | refine walkL_true rfl ?_ | refine walkL_false rfl ?_ | refine walkL_seq ?_ | refine walkL_skip ?_ | refine walkL_block ?_ | (refine walkL_region fun K hK => ?_; simp (maxSteps := 4000000) only [go_sem]; (repeat (first | (refine ⟨_, .lent (hf := k9) (hd := rfl) (hr := rfl), ?_⟩; simp (maxSteps := 4000000) only [go_sem]) | (refine ⟨_, .given (hf := k9) (hd := rfl) (ha := rfl), ?_⟩; simp (maxSteps := 4000000) only [go_sem]))); refine hK _ ?_; clear hK K) | refine walkL_nil ?_ | refine walkL_ret ?_ | refine walkL_exit ?_ | refine blockA_here ?_ | refine blockA_other rfl ?_ | refine blockA_ret ?_ | refine blockA_normal ?_ | refine thenA_ret ?_ | refine thenA_exit ?_ | refine thenA_normal ?_)
    have hok : plantBad p (hoursOf p) = false := by simp [plantBad, hhr, q1, q2, q3, q4, q5, q6, q7, q8, q9, q10, q11]
    have hrt := within_iff.1 q10
    obtain ⟨poss, hposs⟩ : ∃ poss, poss = possL p.scen p.seen := ⟨_, rfl⟩
    rw [← hposs]
    have hpl : poss.length ≤ p.scen.length := by rw [hposs]; exact possFrom_len p.seen p.scen 0
    repeat (first | refine walkL_seq ?_ | refine walkL_skip ?_ | refine walkL_block ?_ | (refine walkL_region fun K hK => ?_; simp (maxSteps := 4000000) only [go_sem, nums_len]; refine hK _ ?_; clear hK K) | refine walkL_nil ?_ | refine walkL_ret ?_ | refine walkL_exit ?_ | refine blockA_here ?_ | refine blockA_other rfl ?_ | refine blockA_ret ?_ | refine blockA_normal ?_ | refine thenA_ret ?_ | refine thenA_exit ?_ | refine thenA_normal ?_)
    refine walkL_loopS (fun (i : Nat) => [(96, .d (.i i))]) (fun i => [(36, some (.box [.d (.sl (scenRows p.scen)), .d (.sl (sightRows p.seen)), .d (.sl (intRows p.sun)), .d (.i p.gain), .d (.i p.start), .d (.i p.stop), .d (.i p.charge), .d (.i p.capacity), .d (.i p.reserve), .d (.i p.gas), .d (.i p.rate), .d (.i p.units), .d (.sl (intRows p.needs)), .own 140, .d (.i H0.length)])), (140, some (.arr 71 1 (scenRows (scensOf (poss.take i)))))]) (fun i => i ≤ poss.length) (fun i => poss.length - i) 0 ?_ (Nat.zero_le _) ?_
    · simp (maxSteps := 4000000) only [go_sem]
      refine weak_of [140] ?_ ?_ rfl rfl <;> simp [lessT, lessM, lessB, AV.less]
      all_goals first | done | rfl | exact ⟨rfl, rfl⟩
    · intro i hi
      simp (maxSteps := 4000000) only [go_sem]
      repeat (first | refine walkL_seq ?_ | refine walkL_skip ?_ | refine walkL_block ?_ | (refine walkL_region fun K hK => ?_; simp (maxSteps := 4000000) only [go_sem]; refine hK _ ?_; clear hK K) | refine walkL_nil ?_ | refine walkL_ret ?_ | refine walkL_exit ?_ | refine blockA_here ?_ | refine blockA_other rfl ?_ | refine blockA_ret ?_ | refine blockA_normal ?_ | refine thenA_ret ?_ | refine thenA_exit ?_ | refine thenA_normal ?_)
      refine walkL_cond rfl (fun hb => ?_) (fun hb => ?_)
      · rw [nums_len] at hb
        have hlt : i < poss.length := by simpa using hb
        have hw : IntKind.i64.wrap ((i : Int) + 1) = ((i + 1 : Nat) : Int) := by rw [wr_small (by omega)]; simp
        obtain ⟨kl, hkl⟩ : ∃ kl, poss[i]? = some kl := ⟨_, List.getElem?_eq_getElem hlt⟩
        obtain ⟨l, _, hl, hl', _⟩ := poss_get p.scen 0 i kl.1 kl.2 (by rw [← possL, ← hposs]; exact hkl)
        rw [Nat.sub_zero] at hl
        have hlm := List.mem_of_getElem? hl
        have hll : l.length = H0.length := by rw [hH0]; exact hg.len l hlm
        have g1 : (intRows (numsOf poss))[i]? = some [.i (kl.1 : Int)] := intRows_at (by simp [numsOf, hkl])
        have g2 := scenRows_at hl
        have htk : poss.take (i + 1) = poss.take i ++ [(kl.1, seenHours p.seen l)] := by rw [List.take_add_one, hkl, ← hl']; rfl
        have h81 := zf120 l (by intro e; rw [e] at hll; simp at hll; omega) (by omega)
        have hrange : ∀ s ∈ p.seen, 0 ≤ s.hour ∧ s.hour.toNat < l.length := fun s hm => by have := s1 s hm; omega
        have hn2 : (scensOf (poss.take i)).length + 1 ≤ 549755813888 := by simp [scensOf]; omega
        repeat (first | refine walkL_seq ?_ | refine walkL_skip ?_ | refine walkL_block ?_ | (refine walkL_region fun K hK => ?_; simp (maxSteps := 4000000) only [go_sem, g1, g2]; refine hK _ ?_; clear hK K) | refine walkL_nil ?_ | refine walkL_ret ?_ | refine walkL_exit ?_ | refine blockA_here ?_ | refine blockA_other rfl ?_ | refine blockA_ret ?_ | refine blockA_normal ?_ | refine thenA_ret ?_ | refine thenA_exit ?_ | refine thenA_normal ?_)
        refine walkL_region fun K hK => ?_
        simp (maxSteps := 4000000) only [go_sem, g1, g2]
        refine ⟨_, .lentS (hdst := rfl) (hf := h81) (hd := rfl) (hr := by first | exact rowsFlat_int _ | exact rowsFlat_hour _ | exact rowsFlat_sight _ | exact rowsFlat_sky _ | exact rowsFlat_span _ | exact rowsFlat_bool _) (hfr := rfl), ?_⟩
        simp (maxSteps := 4000000) only [go_sem]
        refine hK _ ?_
        clear hK K
        repeat (first | refine walkL_seq ?_ | refine walkL_skip ?_ | refine walkL_block ?_ | (refine walkL_region fun K hK => ?_; simp (maxSteps := 4000000) only [go_sem]; refine hK _ ?_; clear hK K) | refine walkL_nil ?_ | refine walkL_ret ?_ | refine walkL_exit ?_ | refine blockA_here ?_ | refine blockA_other rfl ?_ | refine blockA_ret ?_ | refine blockA_normal ?_ | refine thenA_ret ?_ | refine thenA_exit ?_ | refine thenA_normal ?_)
        refine walkL_loopS (fun (k : Nat) => [(111, .d (.i k))]) (fun k => [(107, some (.arr 191 6 (hourRows (seenHours (p.seen.take k) l))))]) (fun k => k ≤ p.seen.length) (fun k => p.seen.length - k) 0 ?_ (Nat.zero_le _) ?_
        · simp (maxSteps := 4000000) only [go_sem]
          refine weak_of [] ?_ ?_ rfl rfl <;> simp [lessT, lessM, lessB, AV.less]
          first | done | rfl
        · intro k hk
          simp (maxSteps := 4000000) only [go_sem]
          repeat (first | refine walkL_seq ?_ | refine walkL_skip ?_ | refine walkL_block ?_ | (refine walkL_region fun K hK => ?_; simp (maxSteps := 4000000) only [go_sem]; refine hK _ ?_; clear hK K) | refine walkL_nil ?_ | refine walkL_ret ?_ | refine walkL_exit ?_ | refine blockA_here ?_ | refine blockA_other rfl ?_ | refine blockA_ret ?_ | refine blockA_normal ?_ | refine thenA_ret ?_ | refine thenA_exit ?_ | refine thenA_normal ?_)
          refine walkL_cond rfl (fun hb => ?_) (fun hb => ?_)
          · have hlt2 : k < p.seen.length := by simpa using hb
            have hw2 : IntKind.i64.wrap ((k : Int) + 1) = ((k + 1 : Nat) : Int) := by rw [wr_small (by omega)]; simp
            obtain ⟨s, hsk⟩ : ∃ s, p.seen[k]? = some s := ⟨_, List.getElem?_eq_getElem hlt2⟩
            have gs := sightRows_at hsk
            have hr := hrange s (List.mem_of_getElem? hsk)
            have hlk2 := seenHours_len (p.seen.take k) l
            have gr := hourRows_at (hourAt_get (l := seenHours (p.seen.take k) l) (i := s.hour) ⟨hr.1, by rw [hlk2]; exact hr.2⟩)
            have hnx : seenHours (p.seen.take (k + 1)) l = (seenHours (p.seen.take k) l).set s.hour.toNat (pointH s.sky) := foldl_take_succ _ _ _ _ _ hsk
            repeat (first | refine walkL_seq ?_ | refine walkL_skip ?_ | refine walkL_block ?_ | (refine walkL_region fun K hK => ?_; simp (maxSteps := 4000000) only [go_sem, gs, Sight.row]; refine hK _ ?_; clear hK K) | refine walkL_nil ?_ | refine walkL_ret ?_ | refine walkL_exit ?_ | refine blockA_here ?_ | refine blockA_other rfl ?_ | refine blockA_ret ?_ | refine blockA_normal ?_ | refine thenA_ret ?_ | refine thenA_exit ?_ | refine thenA_normal ?_)
            refine walkL_drawn (by kernel_rfl) (by kernel_rfl) fun K hK => ?_
            simp (maxSteps := 4000000) only [go_sem, gs, Sight.row, hlk2, hr.1, hr.2, gr, Hour.row]
            refine ⟨_, .fn (hf := zf121 s.sky.wind) (hd := rfl) (hr := .inl rfl), ?_⟩
            simp (maxSteps := 4000000) only [go_sem]
            refine ⟨_, .fn (hf := zf121 s.sky.rain) (hd := rfl) (hr := .inl rfl), ?_⟩
            simp (maxSteps := 4000000) only [go_sem]
            refine ⟨_, .fn (hf := zf121 s.sky.temp) (hd := rfl) (hr := .inl rfl), ?_⟩
            simp (maxSteps := 4000000) only [go_sem, gr, hlk2, hr.1, hr.2, Hour.row, pointH]
            refine ⟨by kernel_rfl, hK _ ?_⟩
            clear hK K
            repeat (first | refine walkL_seq ?_ | refine walkL_skip ?_ | refine walkL_block ?_ | (refine walkL_region fun K hK => ?_; simp (maxSteps := 4000000) only [go_sem, hw2]; refine hK _ ?_; clear hK K) | refine walkL_nil ?_ | refine walkL_ret ?_ | refine walkL_exit ?_ | refine blockA_here ?_ | refine blockA_other rfl ?_ | refine blockA_ret ?_ | refine blockA_normal ?_ | refine thenA_ret ?_ | refine thenA_exit ?_ | refine thenA_normal ?_)
            refine ⟨rfl, k + 1, ?_, hlt2, by omega⟩
            rw [hnx, ← hourRows_set]
            refine weak_of [] ?_ ?_ rfl rfl <;> simp [lessT, lessM, lessB, AV.less]
            first | done | rfl
          · have he : k = p.seen.length := by (have : ¬ k < p.seen.length := by simpa using hb); omega
            subst he
            rw [List.take_length]
            repeat (first | refine walkL_seq ?_ | refine walkL_skip ?_ | refine walkL_block ?_ | (refine walkL_region fun K hK => ?_; simp (maxSteps := 4000000) only [go_sem]; refine hK _ ?_; clear hK K) | refine walkL_nil ?_ | refine walkL_ret ?_ | refine walkL_exit ?_ | refine blockA_here ?_ | refine blockA_other rfl ?_ | refine blockA_ret ?_ | refine blockA_normal ?_ | refine thenA_ret ?_ | refine thenA_exit ?_ | refine thenA_normal ?_)
            refine walkL_release [107] ?_
            simp (maxSteps := 4000000) only [go_sem]
            refine walkL_drawnA (by kernel_rfl) (by kernel_rfl) fun K hK => ?_
            simp (maxSteps := 4000000) only [go_sem, hn2]
            refine ⟨by kernel_rfl, hK _ ?_⟩
            clear hK K
            repeat (first | refine walkL_seq ?_ | refine walkL_skip ?_ | refine walkL_block ?_ | (refine walkL_region fun K hK => ?_; simp (maxSteps := 4000000) only [go_sem, hw]; refine hK _ ?_; clear hK K) | refine walkL_nil ?_ | refine walkL_ret ?_ | refine walkL_exit ?_ | refine blockA_here ?_ | refine blockA_other rfl ?_ | refine blockA_ret ?_ | refine blockA_normal ?_ | refine thenA_ret ?_ | refine thenA_exit ?_ | refine thenA_normal ?_)
            refine ⟨rfl, i + 1, ?_, hlt, by omega⟩
            rw [htk, scens_push]
            refine weak_of [] ?_ ?_ rfl rfl <;> simp [lessT, lessM, lessB, AV.less]
            all_goals first | done | rfl | exact ⟨rfl, rfl⟩
      · rw [nums_len] at hb
        have he : i = poss.length := by (have : ¬ i < poss.length := by simpa using hb); omega
        subst he
        rw [List.take_length]
        have h84 := fun l hl => zf123 ⟨p, scensOf poss, (H0.length : Int)⟩ l (by dsimp only; omega) hl
        have h83 := zf122 burns 123 [.ptr [.ptr (⟨p, scensOf poss, (H0.length : Int)⟩ : Grid).cells 0] 0] (fun l => !burnB ⟨p, scensOf poss, (H0.length : Int)⟩ l) (fun l hm => h84 l (hbs l hm)) (by omega)
        rw [Grid.cells] at h83
        have hgr : gridOf p = ⟨p, scensOf poss, (H0.length : Int)⟩ := by rw [gridOf, hhr, hposs]
        cases hbb : burns.any (fun l => !burnB ⟨p, scensOf poss, (H0.length : Int)⟩ l)
        · rw [hbb] at h83
          have e : openE p burns = 0 := by simp only [openE, hlk, if_true, hok, Bool.false_eq_true, if_false, hgr, hbb]
          rw [e, if_pos rfl, hgr, Grid.cells]
          repeat (first | refine walkL_true rfl ?_ | refine walkL_false rfl ?_ | refine walkL_seq ?_ | refine walkL_skip ?_ | refine walkL_block ?_ | (refine walkL_region fun K hK => ?_; simp (maxSteps := 4000000) only [go_sem]; (repeat (first | (refine ⟨_, .lent (hf := h83) (hd := rfl) (hr := rfl), ?_⟩; simp (maxSteps := 4000000) only [go_sem]) | (refine ⟨_, .given (hf := h83) (hd := rfl) (ha := rfl), ?_⟩; simp (maxSteps := 4000000) only [go_sem]))); refine hK _ ?_; clear hK K) | refine walkL_nil ?_ | refine walkL_ret ?_ | refine walkL_exit ?_ | refine blockA_here ?_ | refine blockA_other rfl ?_ | refine blockA_ret ?_ | refine blockA_normal ?_ | refine thenA_ret ?_ | refine thenA_exit ?_ | refine thenA_normal ?_)
          simp (maxSteps := 4000000) only [go_sem]
        · rw [hbb] at h83
          have e : openE p burns = 101 := by simp only [openE, hlk, if_true, hok, Bool.false_eq_true, if_false, hgr, hbb]
          rw [e, if_neg (by decide)]
          repeat (first | refine walkL_true rfl ?_ | refine walkL_false rfl ?_ | refine walkL_seq ?_ | refine walkL_skip ?_ | refine walkL_block ?_ | (refine walkL_region fun K hK => ?_; simp (maxSteps := 4000000) only [go_sem]; (repeat (first | (refine ⟨_, .lent (hf := h83) (hd := rfl) (hr := rfl), ?_⟩; simp (maxSteps := 4000000) only [go_sem]) | (refine ⟨_, .given (hf := h83) (hd := rfl) (ha := rfl), ?_⟩; simp (maxSteps := 4000000) only [go_sem]))); refine hK _ ?_; clear hK K) | refine walkL_nil ?_ | refine walkL_ret ?_ | refine walkL_exit ?_ | refine blockA_here ?_ | refine blockA_other rfl ?_ | refine blockA_ret ?_ | refine blockA_normal ?_ | refine thenA_ret ?_ | refine thenA_exit ?_ | refine thenA_normal ?_)
          simp (maxSteps := 4000000) only [go_sem]
  · rw [if_neg hlk] at h76
    have e : openE p burns = lookF p.scen p.seen 0 true := by rw [openE, if_neg hlk]
    rw [e, if_neg hlk]
    have hz : (lookF p.scen p.seen 0 true != 0) = true := by simpa using hlk
    repeat (first | refine walkL_true rfl ?_ | refine walkL_false rfl ?_ | refine walkL_seq ?_ | refine walkL_skip ?_ | refine walkL_block ?_ | (refine walkL_region fun K hK => ?_; simp (maxSteps := 4000000) only [go_sem, hz]; (repeat (first | (refine ⟨_, .lent (hf := h76) (hd := rfl) (hr := rfl), ?_⟩; simp (maxSteps := 4000000) only [go_sem, hz]) | (refine ⟨_, .given (hf := h76) (hd := rfl) (ha := rfl), ?_⟩; simp (maxSteps := 4000000) only [go_sem, hz]))); refine hK _ ?_; clear hK K) | refine walkL_nil ?_ | refine walkL_ret ?_ | refine walkL_exit ?_ | refine blockA_here ?_ | refine blockA_other rfl ?_ | refine blockA_ret ?_ | refine blockA_normal ?_ | refine thenA_ret ?_ | refine thenA_exit ?_ | refine thenA_normal ?_)
    simp (maxSteps := 4000000) only [go_sem]
end Go.Ab
namespace Go.Ab
open Go.RowKit Go.Proofs
set_option maxHeartbeats 8000000
set_option maxRecDepth 20000
attribute [local irreducible] WalkL Walk
def yieldW (p : Plant) (h : Int) (s : Sky) : Int :=
  if withinB s.wind p.start p.stop then wr (wr ((wr (getI p.sun h * wr (100 - s.rain))).tdiv 100) + wr (p.gain * s.wind)) else wr ((wr (getI p.sun h * wr (100 - s.rain))).tdiv 100)
theorem zf199 (g : Grid) (h : Int) (s : Sky) (hh : 0 ≤ h ∧ h.toNat < g.p.sun.length) : Fn Tryz.prog 199 [.ptr g.cells 0, .i h, .agg s.row] (.i (yieldW g.p h s)) := by
  have g1 : (intRows g.p.sun)[h.toNat]? = some [.i (getI g.p.sun h)] := intRows_get hh.1 hh.2
  have h80 := zf119 s.wind g.p.start g.p.stop
  refine fn_walk 45 Tryz.call199 Tryz.func199 rfl (by decide) fun J => ?_
  simp (maxSteps := 4000000) only [go_sem, St.start, Tryz.ntmps199, Tryz.results199, Grid.cells, Sky.row]
  cases q : withinB s.wind g.p.start g.p.stop
  all_goals
    rw [q] at h80
    repeat (first | refine walkL_true rfl ?_ | refine walkL_false rfl ?_ | refine walkL_seq ?_ | refine walkL_skip ?_ | refine walkL_block ?_ | (refine walkL_region fun K hK => ?_; simp (maxSteps := 4000000) only [go_sem, g1, hh.1, hh.2]; (repeat (first | (refine ⟨_, .lent (hf := h80) (hd := rfl) (hr := rfl), ?_⟩; simp (maxSteps := 4000000) only [go_sem, g1, hh.1, hh.2]) | (refine ⟨_, .given (hf := h80) (hd := rfl) (ha := rfl), ?_⟩; simp (maxSteps := 4000000) only [go_sem, g1, hh.1, hh.2]))); refine hK _ ?_; clear hK K) | (refine walkL_drawn (by kernel_rfl) (by kernel_rfl) fun K hK => ?_; simp (maxSteps := 4000000) only [go_sem, g1, hh.1, hh.2]; (repeat (first | (refine ⟨_, .fn (hf := h80) (hd := rfl) (hr := .inl rfl), ?_⟩; simp (maxSteps := 4000000) only [go_sem, g1, hh.1, hh.2]))); refine ⟨by kernel_rfl, hK _ ?_⟩; clear hK K) | refine walkL_nil ?_ | refine walkL_ret ?_ | refine walkL_exit ?_ | refine blockA_here ?_ | refine blockA_other rfl ?_ | refine blockA_ret ?_ | refine blockA_normal ?_ | refine thenA_ret ?_ | refine thenA_exit ?_ | refine thenA_normal ?_)
    simp (maxSteps := 4000000) only [go_sem, yieldW, q, if_true, Bool.false_eq_true, if_false]
def worstW (p : Plant) (h : Hour) : Sky := ⟨if decide (h.wind.lo ≥ p.start) && decide (h.wind.hi > p.stop) then h.wind.hi else h.wind.lo, h.rain.hi, h.temp.lo⟩
def bestW (p : Plant) (h : Hour) : Sky := ⟨if decide (p.stop < h.wind.hi) && decide (p.stop ≥ h.wind.lo) then p.stop else h.wind.hi, h.rain.lo, h.temp.lo⟩
theorem zf160 (g : Grid) (h : Hour) : Fn Tryz.prog 160 [.ptr g.cells 0, .agg h.row] (.agg (worstW g.p h).row) := by
  refine fn_walk 41 Tryz.call160 Tryz.func160 rfl (by decide) fun J => ?_
  simp (maxSteps := 4000000) only [go_sem, St.start, Tryz.ntmps160, Tryz.results160, Grid.cells, Hour.row]
  cases q1 : decide (h.wind.lo ≥ g.p.start) <;> cases q2 : decide (h.wind.hi > g.p.stop)
  all_goals
    repeat (first | refine walkL_true rfl ?_ | refine walkL_false rfl ?_ | refine walkL_seq ?_ | refine walkL_skip ?_ | refine walkL_block ?_ | (refine walkL_region fun K hK => ?_; simp (maxSteps := 4000000) only [go_sem, q1, q2]; refine hK _ ?_; clear hK K) | (refine walkL_drawn (by kernel_rfl) (by kernel_rfl) fun K hK => ?_; simp (maxSteps := 4000000) only [go_sem, q1, q2]; refine ⟨by kernel_rfl, hK _ ?_⟩; clear hK K) | refine walkL_nil ?_ | refine walkL_ret ?_ | refine walkL_exit ?_ | refine blockA_here ?_ | refine blockA_other rfl ?_ | refine blockA_ret ?_ | refine blockA_normal ?_ | refine thenA_ret ?_ | refine thenA_exit ?_ | refine thenA_normal ?_)
    simp (maxSteps := 4000000) only [go_sem, worstW, Sky.row, q1, q2, if_true, Bool.false_eq_true, if_false, Bool.and_true, Bool.and_false, Bool.and_self]
def leastW (p : Plant) (l : List Hour) : List Sky := l.map (worstW p)
theorem skyRows_push (a : List Sky) (s : Sky) : skyRows (a ++ [s]) = skyRows a ++ [s.row] := by simp [skyRows]
theorem zf125 (g : Grid) (l : List Hour) (hl : l.length < 2 ^ 30) : Fn Tryz.prog 125 [.ptr g.cells 0, .sl (hourRows l)] (.sl (skyRows (leastW g.p l))) := by
  refine fn_walk 22 Tryz.call125 Tryz.func125 rfl (by decide) fun J => ?_
  simp (maxSteps := 4000000) only [go_sem, St.start, Tryz.ntmps125, Tryz.results125, Grid.cells]
  repeat (first | refine walkL_seq ?_ | refine walkL_skip ?_ | refine walkL_block ?_ | (refine walkL_region fun K hK => ?_; simp (maxSteps := 4000000) only [go_sem]; refine hK _ ?_; clear hK K) | refine walkL_nil ?_ | refine walkL_ret ?_ | refine walkL_exit ?_ | refine blockA_here ?_ | refine blockA_other rfl ?_ | refine blockA_ret ?_ | refine blockA_normal ?_ | refine thenA_ret ?_ | refine thenA_exit ?_ | refine thenA_normal ?_)
  refine walkL_loopS (fun (i : Nat) => [(10, .d (.i i)), (5, .own 19)]) (fun i => [(19, some (.arr 93 3 (skyRows (leastW g.p (l.take i)))))]) (fun i => i ≤ l.length) (fun i => l.length - i) 0 ?_ (Nat.zero_le _) ?_
  · simp (maxSteps := 4000000) only [go_sem]
    refine weak_of [19] ?_ ?_ rfl rfl <;> simp [lessT, lessM, lessB, AV.less]
    all_goals first | done | rfl
  · intro i hi
    simp (maxSteps := 4000000) only [go_sem]
    repeat (first | refine walkL_seq ?_ | refine walkL_skip ?_ | refine walkL_block ?_ | (refine walkL_region fun K hK => ?_; simp (maxSteps := 4000000) only [go_sem]; refine hK _ ?_; clear hK K) | refine walkL_nil ?_ | refine walkL_ret ?_ | refine walkL_exit ?_ | refine blockA_here ?_ | refine blockA_other rfl ?_ | refine blockA_ret ?_ | refine blockA_normal ?_ | refine thenA_ret ?_ | refine thenA_exit ?_ | refine thenA_normal ?_)
    refine walkL_cond rfl (fun hb => ?_) (fun hb => ?_)
    · have hlt : i < l.length := by simpa using hb
      have hw : IntKind.i64.wrap ((i : Int) + 1) = ((i + 1 : Nat) : Int) := by rw [wr_small (by omega)]; simp
      obtain ⟨h, hx⟩ : ∃ h, l[i]? = some h := ⟨_, List.getElem?_eq_getElem hlt⟩
      have g1 := hourRows_at hx
      have h64 := zf160 g h
      rw [Grid.cells, Hour.row, Sky.row] at h64
      have htk : leastW g.p (l.take (i + 1)) = leastW g.p (l.take i) ++ [worstW g.p h] := by rw [List.take_add_one, hx]; simp [leastW]
      have hn : (leastW g.p (l.take i)).length + 1 ≤ 549755813888 := by simp [leastW]; omega
      repeat (first | refine walkL_seq ?_ | refine walkL_skip ?_ | refine walkL_block ?_ | (refine walkL_region fun K hK => ?_; simp (maxSteps := 4000000) only [go_sem, g1, Hour.row, hn, hw]; (repeat (first | (refine ⟨_, .lent (hf := h64) (hd := rfl) (hr := rfl), ?_⟩; simp (maxSteps := 4000000) only [go_sem, g1, Hour.row, hn, hw]) | (refine ⟨_, .given (hf := h64) (hd := rfl) (ha := rfl), ?_⟩; simp (maxSteps := 4000000) only [go_sem, g1, Hour.row, hn, hw]))); refine hK _ ?_; clear hK K) | refine walkL_nil ?_ | refine walkL_ret ?_ | refine walkL_exit ?_ | refine blockA_here ?_ | refine blockA_other rfl ?_ | refine blockA_ret ?_ | refine blockA_normal ?_ | refine thenA_ret ?_ | refine thenA_exit ?_ | refine thenA_normal ?_)
      refine ⟨rfl, i + 1, ?_, hlt, by omega⟩
      rw [htk, skyRows_push]
      refine weak_of [] ?_ ?_ rfl rfl <;> simp [lessT, lessM, lessB, AV.less]
      all_goals first | done | rfl
    · have he : i = l.length := by (have : ¬ i < l.length := by simpa using hb); omega
      subst he
      rw [List.take_length]
      repeat (first | refine walkL_seq ?_ | refine walkL_skip ?_ | refine walkL_block ?_ | (refine walkL_region fun K hK => ?_; simp (maxSteps := 4000000) only [go_sem]; refine hK _ ?_; clear hK K) | refine walkL_nil ?_ | refine walkL_ret ?_ | refine walkL_exit ?_ | refine blockA_here ?_ | refine blockA_other rfl ?_ | refine blockA_ret ?_ | refine blockA_normal ?_ | refine thenA_ret ?_ | refine thenA_exit ?_ | refine thenA_normal ?_)
      simp (maxSteps := 4000000) only [go_sem]
def noSky : Sky := ⟨0, 0, 0⟩
def skyAt (l : List Sky) (i : Nat) : Sky := l.getD i noSky
theorem skyAt_get {l : List Sky} {i : Nat} (h : i < l.length) : l[i]? = some (skyAt l i) := by
  unfold skyAt
  rw [List.getD, List.getElem?_eq_getElem h]
  rfl
def allOf (p : Plant) (burn : List Int) (skies : List Sky) (lv : Int) (j : Nat) : Int :=
  wr (wr (wr (lv + yieldW p j (skyAt skies j)) + wr (p.gas * getI burn j)) - getI p.needs j)
def lvAt (p : Plant) (burn : List Int) (skies : List Sky) : Nat → Int
  | 0 => p.charge
  | j + 1 => min (allOf p burn skies (lvAt p burn skies j) j) p.capacity
def lostAt (p : Plant) (burn : List Int) (skies : List Sky) (j : Nat) : Int := wr (allOf p burn skies (lvAt p burn skies j) j - lvAt p burn skies (j + 1))
def levItems (p : Plant) (burn : List Int) (skies : List Sky) : List (List DV) := (List.range skies.length).map fun j => [.i (lvAt p burn skies (j + 1)), .i (lostAt p burn skies j)]
theorem zf161 (g : Grid) (burn : List Int) (skies : List Sky) : Fn Tryz.prog 161 [.ptr g.cells 0, .sl (intRows burn), .sl (skyRows skies)] (.fn 198 [.ptr [.ptr g.cells 0] 0, .ptr [.sl (skyRows skies)] 0, .ptr [.sl (intRows burn)] 0]) := by
  refine fn_walk 8 Tryz.call161 Tryz.func161 rfl (by decide) fun J => ?_
  simp (maxSteps := 4000000) only [go_sem, St.start, Tryz.ntmps161, Tryz.results161, Grid.cells]
  repeat (first | refine walkL_seq ?_ | refine walkL_skip ?_ | refine walkL_block ?_ | (refine walkL_region fun K hK => ?_; simp (maxSteps := 4000000) only [go_sem]; refine hK _ ?_; clear hK K) | refine walkL_nil ?_ | refine walkL_ret ?_ | refine walkL_exit ?_ | refine blockA_here ?_ | refine blockA_other rfl ?_ | refine blockA_ret ?_ | refine blockA_normal ?_ | refine thenA_ret ?_ | refine thenA_exit ?_ | refine thenA_normal ?_)
  simp (maxSteps := 4000000) only [go_sem]
theorem iter198 (g : Grid) (burn : List Int) (skies : List Sky) (h1 : skies.length ≤ burn.length) (h2 : skies.length ≤ g.p.sun.length) (h3 : skies.length ≤ g.p.needs.length) (hl : skies.length < 2 ^ 30) :
    Iter Tryz.prog 198 [.ptr [.ptr g.cells 0] 0, .ptr [.sl (skyRows skies)] 0, .ptr [.sl (intRows burn)] 0] (levItems g.p burn skies) := by
  refine iter_walk 64 Tryz.call198 Tryz.func198 rfl rfl fun l J B hS hG => ?_
  simp (maxSteps := 4000000) only [go_sem, St.start, Tryz.ntmps198, Grid.cells]
  repeat (first | refine walkL_seq ?_ | refine walkL_skip ?_ | refine walkL_block ?_ | (refine walkL_region fun K hK => ?_; simp (maxSteps := 4000000) only [go_sem]; refine hK _ ?_; clear hK K) | refine walkL_nil ?_ | refine walkL_ret ?_ | refine walkL_exit ?_ | refine blockA_here ?_ | refine blockA_other rfl ?_ | refine blockA_ret ?_ | refine blockA_normal ?_ | refine thenA_ret ?_ | refine thenA_exit ?_ | refine thenA_normal ?_)
  refine walkL_loopK (fun (j : Nat) => [(17, .d (.i j)), (5, .d (.i (lvAt g.p burn skies j)))]) (fun _ => []) (fun k j => j ≤ skies.length ∧ k = some j) (fun j => skies.length - j) 0 ?_ ⟨Nat.zero_le _, rfl⟩ ?_
  · simp (maxSteps := 4000000) only [go_sem, lvAt]
    refine weak_of [] ?_ ?_ rfl rfl <;> simp [lessT, lessM, lessB, AV.less]
  · rintro k j ⟨hj, rfl⟩
    simp (maxSteps := 4000000) only [go_sem]
    repeat (first | refine walkL_seq ?_ | refine walkL_skip ?_ | refine walkL_block ?_ | (refine walkL_region fun K hK => ?_; simp (maxSteps := 4000000) only [go_sem]; refine hK _ ?_; clear hK K) | refine walkL_nil ?_ | refine walkL_ret ?_ | refine walkL_exit ?_ | refine blockA_here ?_ | refine blockA_other rfl ?_ | refine blockA_ret ?_ | refine blockA_normal ?_ | refine thenA_ret ?_ | refine thenA_exit ?_ | refine thenA_normal ?_)
    refine walkL_cond rfl (fun hb => ?_) (fun hb => ?_)
    · have hlt : j < skies.length := by simpa using hb
      have hw : IntKind.i64.wrap ((j : Int) + 1) = ((j + 1 : Nat) : Int) := by rw [wr_small (by omega)]; simp
      have g1 := skyRows_at (skyAt_get hlt)
      have g2 : (intRows burn)[j]? = some [.i (getI burn j)] := by have := intRows_get (l := burn) (i := (j : Int)) (by omega) (by simp; omega); simpa using this
      have g3 : (intRows g.p.needs)[j]? = some [.i (getI g.p.needs j)] := by have := intRows_get (l := g.p.needs) (i := (j : Int)) (by omega) (by simp; omega); simpa using this
      have h63 := zf199 g j (skyAt skies j) ⟨by omega, by simp; omega⟩
      rw [Grid.cells, Sky.row] at h63
      have e1 : wr (wr (wr (lvAt g.p burn skies j + yieldW g.p j (skyAt skies j)) + wr (g.p.gas * getI burn j)) - getI g.p.needs j) = allOf g.p burn skies (lvAt g.p burn skies j) j := rfl
      have e2 : min (allOf g.p burn skies (lvAt g.p burn skies j) j) g.p.capacity = lvAt g.p burn skies (j + 1) := rfl
      have e3 : wr (allOf g.p burn skies (lvAt g.p burn skies j) j - lvAt g.p burn skies (j + 1)) = lostAt g.p burn skies j := rfl
      have hget : (levItems g.p burn skies)[j]? = some [.i (lvAt g.p burn skies (j + 1)), .i (lostAt g.p burn skies j)] := by
        simp [levItems, List.getElem?_map, List.getElem?_range hlt]
      repeat (first | refine walkL_seq ?_ | refine walkL_skip ?_ | refine walkL_block ?_ | (refine walkL_region fun K hK => ?_; simp (maxSteps := 4000000) only [go_sem, g1, Sky.row]; refine hK _ ?_; clear hK K) | refine walkL_nil ?_ | refine walkL_ret ?_ | refine walkL_exit ?_ | refine blockA_here ?_ | refine blockA_other rfl ?_ | refine blockA_ret ?_ | refine blockA_normal ?_ | refine thenA_ret ?_ | refine thenA_exit ?_ | refine thenA_normal ?_)
      refine walkL_drawn (by kernel_rfl) (by kernel_rfl) fun K hK => ?_
      simp (maxSteps := 4000000) only [go_sem, g1, g2, g3, Sky.row]
      refine ⟨_, .fn (hf := h63) (hd := rfl) (hr := .inl rfl), ?_⟩
      simp (maxSteps := 4000000) only [go_sem, g2, g3]
      refine ⟨by kernel_rfl, hK _ ?_⟩
      clear hK K
      repeat (first | refine walkL_seq ?_ | refine walkL_skip ?_ | refine walkL_block ?_ | (refine walkL_region fun K hK => ?_; simp (maxSteps := 4000000) only [go_sem, e1, e2]; refine hK _ ?_; clear hK K) | refine walkL_nil ?_ | refine walkL_ret ?_ | refine walkL_exit ?_ | refine blockA_here ?_ | refine blockA_other rfl ?_ | refine blockA_ret ?_ | refine blockA_normal ?_ | refine thenA_ret ?_ | refine thenA_exit ?_ | refine thenA_normal ?_)
      refine walkL_regionY hS hG fun K hK => ?_
      simp (maxSteps := 4000000) only [go_sem, e3]
      refine ⟨rfl, j, [.i (lvAt g.p burn skies (j + 1)), .i (lostAt g.p burn skies j)], rfl, rfl, hget, ?_, ?_⟩
      · simp (maxSteps := 4000000) only [go_sem]
        refine hK _ _ ?_
        clear hK K
        refine walkL_false rfl ?_
        repeat (first | refine walkL_seq ?_ | refine walkL_skip ?_ | refine walkL_block ?_ | (refine walkL_region fun K hK => ?_; simp (maxSteps := 4000000) only [go_sem, hw]; refine hK _ ?_; clear hK K) | refine walkL_nil ?_ | refine walkL_ret ?_ | refine walkL_exit ?_ | refine blockA_here ?_ | refine blockA_other rfl ?_ | refine blockA_ret ?_ | refine blockA_normal ?_ | refine thenA_ret ?_ | refine thenA_exit ?_ | refine thenA_normal ?_)
        refine ⟨j + 1, ?_, ⟨hlt, rfl⟩, by omega⟩
        refine weak_of [] ?_ ?_ rfl rfl <;> simp [lessT, lessM, lessB, AV.less]
      · simp (maxSteps := 4000000) only [go_sem]
        refine hK _ _ ?_
        clear hK K
        refine walkL_true rfl ?_
        repeat (first | refine walkL_seq ?_ | refine walkL_skip ?_ | refine walkL_block ?_ | (refine walkL_region fun K hK => ?_; simp (maxSteps := 4000000) only [go_sem]; refine hK _ ?_; clear hK K) | refine walkL_nil ?_ | refine walkL_ret ?_ | refine walkL_exit ?_ | refine blockA_here ?_ | refine blockA_other rfl ?_ | refine blockA_ret ?_ | refine blockA_normal ?_ | refine thenA_ret ?_ | refine thenA_exit ?_ | refine thenA_normal ?_)
        exact ⟨trivial, .inr rfl⟩
    · have he : j = skies.length := by (have : ¬ j < skies.length := by simpa using hb); omega
      subst he
      repeat (first | refine walkL_seq ?_ | refine walkL_skip ?_ | refine walkL_block ?_ | (refine walkL_region fun K hK => ?_; simp (maxSteps := 4000000) only [go_sem]; refine hK _ ?_; clear hK K) | refine walkL_nil ?_ | refine walkL_ret ?_ | refine walkL_exit ?_ | refine blockA_here ?_ | refine blockA_other rfl ?_ | refine blockA_ret ?_ | refine blockA_normal ?_ | refine thenA_ret ?_ | refine thenA_exit ?_ | refine thenA_normal ?_)
      refine ⟨trivial, .inl ?_⟩
      simp [levItems]
end Go.Ab
namespace Go.Ab
open Go.RowKit Go.Proofs
set_option maxHeartbeats 8000000
set_option maxRecDepth 20000
attribute [local irreducible] WalkL Walk
def countTo (q : Nat → Bool) : Nat → Nat → Nat
  | 0, i => i
  | k + 1, i => if q i then countTo q k (i + 1) else i
theorem countTo_le (q : Nat → Bool) : ∀ (k i : Nat), i ≤ countTo q k i ∧ countTo q k i ≤ i + k
  | 0, i => by simp [countTo]
  | k + 1, i => by
    rw [countTo]
    have := countTo_le q k (i + 1)
    split <;> omega
def lastsW (p : Plant) (burn : List Int) (skies : List Sky) : Nat := countTo (fun j => !decide (lvAt p burn skies (j + 1) < p.reserve)) skies.length 0
theorem zf126 (g : Grid) (burn : List Int) (skies : List Sky) (h1 : skies.length ≤ burn.length) (h2 : skies.length ≤ g.p.sun.length) (h3 : skies.length ≤ g.p.needs.length) (hl : skies.length < 2 ^ 30) :
    Fn Tryz.prog 126 [.ptr g.cells 0, .sl (intRows burn), .sl (skyRows skies)] (.i (lastsW g.p burn skies)) := by
  have hit := iter198 g burn skies h1 h2 h3 hl
  have h62 := zf161 g burn skies
  have hlen : (levItems g.p burn skies).length = skies.length := by simp [levItems]
  rw [Grid.cells] at hit h62
  refine fn_walk 25 Tryz.call126 Tryz.func126 rfl (by decide) fun J => ?_
  simp (maxSteps := 4000000) only [go_sem, St.start, Tryz.ntmps126, Tryz.results126, Grid.cells]
  repeat (first | refine walkL_seq ?_ | refine walkL_skip ?_ | refine walkL_block ?_ | (refine walkL_region fun K hK => ?_; simp (maxSteps := 4000000) only [go_sem]; refine hK _ ?_; clear hK K) | refine walkL_nil ?_ | refine walkL_ret ?_ | refine walkL_exit ?_ | refine blockA_here ?_ | refine blockA_other rfl ?_ | refine blockA_ret ?_ | refine blockA_normal ?_ | refine thenA_ret ?_ | refine thenA_exit ?_ | refine thenA_normal ?_)
  refine walkL_region fun K hK => ?_
  simp (maxSteps := 4000000) only [go_sem]
  refine ⟨_, .given (hf := h62) (hd := rfl) (ha := rfl), ?_⟩
  simp (maxSteps := 4000000) only [go_sem]
  refine hK _ ?_
  clear hK K
  repeat (first | refine walkL_seq ?_ | refine walkL_skip ?_ | refine walkL_block ?_ | (refine walkL_region fun K hK => ?_; simp (maxSteps := 4000000) only [go_sem]; refine hK _ ?_; clear hK K) | refine walkL_nil ?_ | refine walkL_ret ?_ | refine walkL_exit ?_ | refine blockA_here ?_ | refine blockA_other rfl ?_ | refine blockA_ret ?_ | refine blockA_normal ?_ | refine thenA_ret ?_ | refine thenA_exit ?_ | refine thenA_normal ?_)
  refine walkL_rangeS (g := .tmp 11) rfl hit (by intro row hr; obtain ⟨w, _, rfl⟩ := List.mem_map.1 hr; rfl) (fun _ => []) (fun (a : Nat) => [(6, some (.box [.d (.i a)]))])
    (fun i a => a = i ∧ i ≤ skies.length ∧ lastsW g.p burn skies = countTo (fun j => !decide (lvAt g.p burn skies (j + 1) < g.p.reserve)) (skies.length - i) i) (fun e a => e = .exit 0 ∧ a = lastsW g.p burn skies) 0 ?_ ⟨rfl, Nat.zero_le _, rfl⟩ ?_ ?_ ?_
  · simp (maxSteps := 4000000) only [go_sem]
    refine weak_of [] ?_ ?_ rfl rfl <;> simp [lessT, lessM, lessB, AV.less]
  · rintro i a row hi ⟨rfl, hle, hlast⟩ l2 m2
    have hlt : a < skies.length := by rw [← hlen]; exact (List.getElem?_eq_some_iff.1 hi).1
    have hrow : row = [.i (lvAt g.p burn skies (a + 1)), .i (lostAt g.p burn skies a)] := by
      have : (levItems g.p burn skies)[a]? = some [.i (lvAt g.p burn skies (a + 1)), .i (lostAt g.p burn skies a)] := by simp [levItems, List.getElem?_map, List.getElem?_range hlt]
      rw [hi] at this
      exact Option.some.inj this
    subst hrow
    rw [show skies.length - a = (skies.length - (a + 1)) + 1 by omega, countTo] at hlast
    have hw : IntKind.i64.wrap ((a : Int) + 1) = ((a + 1 : Nat) : Int) := by rw [wr_small (by omega)]; simp
    simp (maxSteps := 4000000) only [go_sem]
    repeat (first | refine walkL_seq ?_ | refine walkL_skip ?_ | refine walkL_block ?_ | (refine walkL_region fun K hK => ?_; simp (maxSteps := 4000000) only [go_sem]; refine hK _ ?_; clear hK K) | refine walkL_nil ?_ | refine walkL_ret ?_ | refine walkL_exit ?_ | refine blockA_here ?_ | refine blockA_other rfl ?_ | refine blockA_ret ?_ | refine blockA_normal ?_ | refine thenA_ret ?_ | refine thenA_exit ?_ | refine thenA_normal ?_)
    refine walkL_cond rfl (fun hc => ?_) (fun hc => ?_)
    · rw [hc] at hlast
      repeat (first | refine walkL_seq ?_ | refine walkL_skip ?_ | refine walkL_block ?_ | (refine walkL_region fun K hK => ?_; simp (maxSteps := 4000000) only [go_sem]; refine hK _ ?_; clear hK K) | refine walkL_nil ?_ | refine walkL_ret ?_ | refine walkL_exit ?_ | refine blockA_here ?_ | refine blockA_other rfl ?_ | refine blockA_ret ?_ | refine blockA_normal ?_ | refine thenA_ret ?_ | refine thenA_exit ?_ | refine thenA_normal ?_)
      refine ⟨rfl, rfl, a, ?_, rfl, by rw [hlast]; simp⟩
      simp (maxSteps := 4000000) only [go_sem]
      refine weak_of [] ?_ ?_ rfl rfl <;> simp [lessT, lessM, lessB, AV.less]
    · rw [hc] at hlast
      repeat (first | refine walkL_seq ?_ | refine walkL_skip ?_ | refine walkL_block ?_ | (refine walkL_region fun K hK => ?_; simp (maxSteps := 4000000) only [go_sem, hw]; refine hK _ ?_; clear hK K) | refine walkL_nil ?_ | refine walkL_ret ?_ | refine walkL_exit ?_ | refine blockA_here ?_ | refine blockA_other rfl ?_ | refine blockA_ret ?_ | refine blockA_normal ?_ | refine thenA_ret ?_ | refine thenA_exit ?_ | refine thenA_normal ?_)
      refine ⟨rfl, a + 1, ?_, rfl, hlt, by rw [hlast]; simp⟩
      simp (maxSteps := 4000000) only [go_sem]
      refine weak_of [] ?_ ?_ rfl rfl <;> simp [lessT, lessM, lessB, AV.less]
  · rintro a ⟨rfl, _, hlast⟩
    rw [hlen, Nat.sub_self, countTo] at hlast
    rw [hlen]
    simp (maxSteps := 4000000) only [go_sem]
    repeat (first | refine walkL_seq ?_ | refine walkL_skip ?_ | refine walkL_block ?_ | (refine walkL_region fun K hK => ?_; simp (maxSteps := 4000000) only [go_sem]; refine hK _ ?_; clear hK K) | refine walkL_nil ?_ | refine walkL_ret ?_ | refine walkL_exit ?_ | refine blockA_here ?_ | refine blockA_other rfl ?_ | refine blockA_ret ?_ | refine blockA_normal ?_ | refine thenA_ret ?_ | refine thenA_exit ?_ | refine thenA_normal ?_)
    simp (maxSteps := 4000000) only [go_sem, hlast]
  · rintro e a ⟨rfl, rfl⟩ _
    simp (maxSteps := 4000000) only [go_sem]
    repeat (first | refine walkL_seq ?_ | refine walkL_skip ?_ | refine walkL_block ?_ | (refine walkL_region fun K hK => ?_; simp (maxSteps := 4000000) only [go_sem]; refine hK _ ?_; clear hK K) | refine walkL_nil ?_ | refine walkL_ret ?_ | refine walkL_exit ?_ | refine blockA_here ?_ | refine blockA_other rfl ?_ | refine blockA_ret ?_ | refine blockA_normal ?_ | refine thenA_ret ?_ | refine thenA_exit ?_ | refine thenA_normal ?_)
    simp (maxSteps := 4000000) only [go_sem]
theorem lastsW_le (p : Plant) (burn : List Int) (skies : List Sky) : lastsW p burn skies ≤ skies.length := by
  have := countTo_le (fun j => !decide (lvAt p burn skies (j + 1) < p.reserve)) skies.length 0
  unfold lastsW
  omega
structure GridOk (g : Grid) (H : Nat) : Prop where
  hours : g.hours = H
  pos : 1 ≤ H ∧ H ≤ 48
  sun : g.p.sun.length = H
  needs : g.p.needs.length = H
  scen : g.scen ≠ [] ∧ g.scen.length < 2 ^ 20
  len : ∀ l ∈ g.scen, l.length = H
  rate : 0 ≤ g.p.rate ∧ g.p.rate ≤ 10
  units : 0 ≤ g.p.units ∧ g.p.units ≤ 200
def hardStep (p : Plant) (burn : List Int) (a : List Sky × Int) (l : List Hour) : List Sky × Int :=
  if (lastsW p burn (leastW p l) : Int) < a.2 then (leastW p l, (lastsW p burn (leastW p l) : Int)) else a
def hardF (g : Grid) (burn : List Int) : List Sky × Int := g.scen.foldl (hardStep g.p burn) ([], g.hours + 1)
theorem leastW_len (p : Plant) (l : List Hour) : (leastW p l).length = l.length := by simp [leastW]
theorem zf78 (g : Grid) (H : Nat) (burn : List Int) (hg : GridOk g H) (hb : burn.length = H) : Fn Tryz.prog 78 [.ptr g.cells 0, .sl (intRows burn)] (.tup [.sl (skyRows (hardF g burn).1), .i (hardF g burn).2]) := by
  have hpos := hg.pos
  have hsc := hg.scen.2
  have hw0 : IntKind.i64.wrap (g.hours + 1) = g.hours + 1 := wr_small (by rw [hg.hours]; omega)
  refine fn_walk 39 Tryz.call78 Tryz.func78 rfl (by decide) fun J => ?_
  simp (maxSteps := 4000000) only [go_sem, St.start, Tryz.ntmps78, Tryz.results78, Grid.cells]
  repeat (first | refine walkL_seq ?_ | refine walkL_skip ?_ | refine walkL_block ?_ | (refine walkL_region fun K hK => ?_; simp (maxSteps := 4000000) only [go_sem, hw0]; refine hK _ ?_; clear hK K) | refine walkL_nil ?_ | refine walkL_ret ?_ | refine walkL_exit ?_ | refine blockA_here ?_ | refine blockA_other rfl ?_ | refine blockA_ret ?_ | refine blockA_normal ?_ | refine thenA_ret ?_ | refine thenA_exit ?_ | refine thenA_normal ?_)
  refine walkL_loopS (fun (i : Nat) => [(20, .d (.i i)), (4, .d (.sl (skyRows ((g.scen.take i).foldl (hardStep g.p burn) ([], g.hours + 1)).1))), (5, .d (.i ((g.scen.take i).foldl (hardStep g.p burn) ([], g.hours + 1)).2))]) (fun _ => []) (fun i => i ≤ g.scen.length) (fun i => g.scen.length - i) 0 ?_ (Nat.zero_le _) ?_
  · simp (maxSteps := 4000000) only [go_sem, List.take_zero, List.foldl_nil]
    refine weak_of [] ?_ ?_ rfl rfl <;> simp [lessT, lessM, lessB, AV.less]
    all_goals first | done | rfl
  · intro i hi
    simp (maxSteps := 4000000) only [go_sem]
    repeat (first | refine walkL_seq ?_ | refine walkL_skip ?_ | refine walkL_block ?_ | (refine walkL_region fun K hK => ?_; simp (maxSteps := 4000000) only [go_sem]; refine hK _ ?_; clear hK K) | refine walkL_nil ?_ | refine walkL_ret ?_ | refine walkL_exit ?_ | refine blockA_here ?_ | refine blockA_other rfl ?_ | refine blockA_ret ?_ | refine blockA_normal ?_ | refine thenA_ret ?_ | refine thenA_exit ?_ | refine thenA_normal ?_)
    refine walkL_cond rfl (fun hb2 => ?_) (fun hb2 => ?_)
    · have hb := hb2
      have hlt : i < g.scen.length := by simpa using hb
      have hw : IntKind.i64.wrap ((i : Int) + 1) = ((i + 1 : Nat) : Int) := by rw [wr_small (by omega)]; simp
      obtain ⟨l, hx⟩ : ∃ l, g.scen[i]? = some l := ⟨_, List.getElem?_eq_getElem hlt⟩
      have hll := hg.len l (List.mem_of_getElem? hx)
      have g1 := scenRows_at hx
      have h88 := zf125 g l (by omega)
      have h89 := zf126 g burn (leastW g.p l) (by rw [leastW_len]; omega) (by rw [leastW_len, hg.sun]; omega) (by rw [leastW_len, hg.needs]; omega) (by rw [leastW_len]; omega)
      rw [Grid.cells] at h88 h89
      have hnx : (g.scen.take (i + 1)).foldl (hardStep g.p burn) ([], g.hours + 1) = hardStep g.p burn ((g.scen.take i).foldl (hardStep g.p burn) ([], g.hours + 1)) l := foldl_take_succ _ _ _ _ _ hx
      obtain ⟨a, ha⟩ : ∃ a, a = (g.scen.take i).foldl (hardStep g.p burn) ([], g.hours + 1) := ⟨_, rfl⟩
      rw [← ha] at hnx ⊢
      repeat (first | refine walkL_seq ?_ | refine walkL_skip ?_ | refine walkL_block ?_ | (refine walkL_region fun K hK => ?_; simp (maxSteps := 4000000) only [go_sem, g1]; (repeat (first | (refine ⟨_, .lent (hf := h88) (hd := rfl) (hr := rfl), ?_⟩; simp (maxSteps := 4000000) only [go_sem, g1]) | (refine ⟨_, .lent (hf := h89) (hd := rfl) (hr := rfl), ?_⟩; simp (maxSteps := 4000000) only [go_sem, g1]) | (refine ⟨_, .given (hf := h88) (hd := rfl) (ha := rfl), ?_⟩; simp (maxSteps := 4000000) only [go_sem, g1]) | (refine ⟨_, .given (hf := h89) (hd := rfl) (ha := rfl), ?_⟩; simp (maxSteps := 4000000) only [go_sem, g1]))); refine hK _ ?_; clear hK K) | refine walkL_nil ?_ | refine walkL_ret ?_ | refine walkL_exit ?_ | refine blockA_here ?_ | refine blockA_other rfl ?_ | refine blockA_ret ?_ | refine blockA_normal ?_ | refine thenA_ret ?_ | refine thenA_exit ?_ | refine thenA_normal ?_)
      refine walkL_cond rfl (fun hc => ?_) (fun hc => ?_)
      · have hc : (lastsW g.p burn (leastW g.p l) : Int) < a.2 := by simpa using hc
        rw [hardStep, if_pos hc] at hnx
        repeat (first | refine walkL_seq ?_ | refine walkL_skip ?_ | refine walkL_block ?_ | (refine walkL_region fun K hK => ?_; simp (maxSteps := 4000000) only [go_sem, hw]; refine hK _ ?_; clear hK K) | refine walkL_nil ?_ | refine walkL_ret ?_ | refine walkL_exit ?_ | refine blockA_here ?_ | refine blockA_other rfl ?_ | refine blockA_ret ?_ | refine blockA_normal ?_ | refine thenA_ret ?_ | refine thenA_exit ?_ | refine thenA_normal ?_)
        refine ⟨rfl, i + 1, ?_, hlt, by omega⟩
        rw [hnx]
        refine weak_of [] ?_ ?_ rfl rfl <;> simp [lessT, lessM, lessB, AV.less]
      · have hc : ¬ (lastsW g.p burn (leastW g.p l) : Int) < a.2 := by simpa using hc
        rw [hardStep, if_neg hc] at hnx
        repeat (first | refine walkL_seq ?_ | refine walkL_skip ?_ | refine walkL_block ?_ | (refine walkL_region fun K hK => ?_; simp (maxSteps := 4000000) only [go_sem, hw]; refine hK _ ?_; clear hK K) | refine walkL_nil ?_ | refine walkL_ret ?_ | refine walkL_exit ?_ | refine blockA_here ?_ | refine blockA_other rfl ?_ | refine blockA_ret ?_ | refine blockA_normal ?_ | refine thenA_ret ?_ | refine thenA_exit ?_ | refine thenA_normal ?_)
        refine ⟨rfl, i + 1, ?_, hlt, by omega⟩
        rw [hnx]
        refine weak_of [] ?_ ?_ rfl rfl <;> simp [lessT, lessM, lessB, AV.less]
    · have hb := hb2
      have he : i = g.scen.length := by (have : ¬ i < g.scen.length := by simpa using hb); omega
      subst he
      rw [List.take_length]
      repeat (first | refine walkL_seq ?_ | refine walkL_skip ?_ | refine walkL_block ?_ | (refine walkL_region fun K hK => ?_; simp (maxSteps := 4000000) only [go_sem]; refine hK _ ?_; clear hK K) | refine walkL_nil ?_ | refine walkL_ret ?_ | refine walkL_exit ?_ | refine blockA_here ?_ | refine blockA_other rfl ?_ | refine blockA_ret ?_ | refine blockA_normal ?_ | refine thenA_ret ?_ | refine thenA_exit ?_ | refine thenA_normal ?_)
      simp (maxSteps := 4000000) only [go_sem, hardF]
theorem zf78m (g : Grid) (H : Nat) (burn : List Int) (hg : GridOk g H) (hb : burn.length = H) : FnG Tryz.prog 78 [.arr 3 1 (intRows burn)] [0] [.d (.ptr g.cells 0), .own 0] (.tup [.d (.sl (skyRows (hardF g burn).1)), .d (.i (hardF g burn).2)]) [.arr 3 1 (intRows burn)] := by
  have hpos := hg.pos
  have hsc := hg.scen.2
  have hw0 : IntKind.i64.wrap (g.hours + 1) = g.hours + 1 := wr_small (by rw [hg.hours]; omega)
  refine fnG_walk 39 Tryz.call78 Tryz.func78 rfl (by decide) [] [(0, 1)] (by simp only [List.length_cons, List.length_nil]; decide) (by kernel_rfl) fun J => ?_
  simp (maxSteps := 4000000) only [go_sem, St.startG, Tryz.ntmps78, Tryz.results78, List.map_cons, List.map_nil, List.range_succ,  Grid.cells]
  repeat (first | refine walkL_seq ?_ | refine walkL_skip ?_ | refine walkL_block ?_ | (refine walkL_region fun K hK => ?_; simp (maxSteps := 4000000) only [go_sem, hw0]; refine hK _ ?_; clear hK K) | refine walkL_nil ?_ | refine walkL_ret ?_ | refine walkL_exit ?_ | refine blockA_here ?_ | refine blockA_other rfl ?_ | refine blockA_ret ?_ | refine blockA_normal ?_ | refine thenA_ret ?_ | refine thenA_exit ?_ | refine thenA_normal ?_)
  refine walkL_loopS (fun (i : Nat) => [(20, .d (.i i)), (4, .d (.sl (skyRows ((g.scen.take i).foldl (hardStep g.p burn) ([], g.hours + 1)).1))), (5, .d (.i ((g.scen.take i).foldl (hardStep g.p burn) ([], g.hours + 1)).2))]) (fun _ => []) (fun i => i ≤ g.scen.length) (fun i => g.scen.length - i) 0 ?_ (Nat.zero_le _) ?_
  · simp (maxSteps := 4000000) only [go_sem, List.take_zero, List.foldl_nil]
    refine weak_of [] ?_ ?_ rfl rfl <;> simp [lessT, lessM, lessB, AV.less]
    all_goals first | done | rfl
  · intro i hi
    simp (maxSteps := 4000000) only [go_sem]
    repeat (first | refine walkL_seq ?_ | refine walkL_skip ?_ | refine walkL_block ?_ | (refine walkL_region fun K hK => ?_; simp (maxSteps := 4000000) only [go_sem]; refine hK _ ?_; clear hK K) | refine walkL_nil ?_ | refine walkL_ret ?_ | refine walkL_exit ?_ | refine blockA_here ?_ | refine blockA_other rfl ?_ | refine blockA_ret ?_ | refine blockA_normal ?_ | refine thenA_ret ?_ | refine thenA_exit ?_ | refine thenA_normal ?_)
    refine walkL_cond rfl (fun hb2 => ?_) (fun hb2 => ?_)
    · have hb := hb2
      have hlt : i < g.scen.length := by simpa using hb
      have hw : IntKind.i64.wrap ((i : Int) + 1) = ((i + 1 : Nat) : Int) := by rw [wr_small (by omega)]; simp
      obtain ⟨l, hx⟩ : ∃ l, g.scen[i]? = some l := ⟨_, List.getElem?_eq_getElem hlt⟩
      have hll := hg.len l (List.mem_of_getElem? hx)
      have g1 := scenRows_at hx
      have h88 := zf125 g l (by omega)
      have h89 := zf126 g burn (leastW g.p l) (by rw [leastW_len]; omega) (by rw [leastW_len, hg.sun]; omega) (by rw [leastW_len, hg.needs]; omega) (by rw [leastW_len]; omega)
      rw [Grid.cells] at h88 h89
      have hnx : (g.scen.take (i + 1)).foldl (hardStep g.p burn) ([], g.hours + 1) = hardStep g.p burn ((g.scen.take i).foldl (hardStep g.p burn) ([], g.hours + 1)) l := foldl_take_succ _ _ _ _ _ hx
      obtain ⟨a, ha⟩ : ∃ a, a = (g.scen.take i).foldl (hardStep g.p burn) ([], g.hours + 1) := ⟨_, rfl⟩
      rw [← ha] at hnx ⊢
      repeat (first | refine walkL_seq ?_ | refine walkL_skip ?_ | refine walkL_block ?_ | (refine walkL_region fun K hK => ?_; simp (maxSteps := 4000000) only [go_sem, g1]; (repeat (first | (refine ⟨_, .lent (hf := h88) (hd := rfl) (hr := rfl), ?_⟩; simp (maxSteps := 4000000) only [go_sem, g1]) | (refine ⟨_, .lent (hf := h89) (hd := rfl) (hr := rfl), ?_⟩; simp (maxSteps := 4000000) only [go_sem, g1]) | (refine ⟨_, .given (hf := h88) (hd := rfl) (ha := rfl), ?_⟩; simp (maxSteps := 4000000) only [go_sem, g1]) | (refine ⟨_, .given (hf := h89) (hd := rfl) (ha := rfl), ?_⟩; simp (maxSteps := 4000000) only [go_sem, g1]))); refine hK _ ?_; clear hK K) | refine walkL_nil ?_ | refine walkL_ret ?_ | refine walkL_exit ?_ | refine blockA_here ?_ | refine blockA_other rfl ?_ | refine blockA_ret ?_ | refine blockA_normal ?_ | refine thenA_ret ?_ | refine thenA_exit ?_ | refine thenA_normal ?_)
      refine walkL_cond rfl (fun hc => ?_) (fun hc => ?_)
      · have hc : (lastsW g.p burn (leastW g.p l) : Int) < a.2 := by simpa using hc
        rw [hardStep, if_pos hc] at hnx
        repeat (first | refine walkL_seq ?_ | refine walkL_skip ?_ | refine walkL_block ?_ | (refine walkL_region fun K hK => ?_; simp (maxSteps := 4000000) only [go_sem, hw]; refine hK _ ?_; clear hK K) | refine walkL_nil ?_ | refine walkL_ret ?_ | refine walkL_exit ?_ | refine blockA_here ?_ | refine blockA_other rfl ?_ | refine blockA_ret ?_ | refine blockA_normal ?_ | refine thenA_ret ?_ | refine thenA_exit ?_ | refine thenA_normal ?_)
        refine ⟨rfl, i + 1, ?_, hlt, by omega⟩
        rw [hnx]
        refine weak_of [] ?_ ?_ rfl rfl <;> simp [lessT, lessM, lessB, AV.less]
      · have hc : ¬ (lastsW g.p burn (leastW g.p l) : Int) < a.2 := by simpa using hc
        rw [hardStep, if_neg hc] at hnx
        repeat (first | refine walkL_seq ?_ | refine walkL_skip ?_ | refine walkL_block ?_ | (refine walkL_region fun K hK => ?_; simp (maxSteps := 4000000) only [go_sem, hw]; refine hK _ ?_; clear hK K) | refine walkL_nil ?_ | refine walkL_ret ?_ | refine walkL_exit ?_ | refine blockA_here ?_ | refine blockA_other rfl ?_ | refine blockA_ret ?_ | refine blockA_normal ?_ | refine thenA_ret ?_ | refine thenA_exit ?_ | refine thenA_normal ?_)
        refine ⟨rfl, i + 1, ?_, hlt, by omega⟩
        rw [hnx]
        refine weak_of [] ?_ ?_ rfl rfl <;> simp [lessT, lessM, lessB, AV.less]
    · have hb := hb2
      have he : i = g.scen.length := by (have : ¬ i < g.scen.length := by simpa using hb); omega
      subst he
      rw [List.take_length]
      repeat (first | refine walkL_seq ?_ | refine walkL_skip ?_ | refine walkL_block ?_ | (refine walkL_region fun K hK => ?_; simp (maxSteps := 4000000) only [go_sem]; refine hK _ ?_; clear hK K) | refine walkL_nil ?_ | refine walkL_ret ?_ | refine walkL_exit ?_ | refine blockA_here ?_ | refine blockA_other rfl ?_ | refine blockA_ret ?_ | refine blockA_normal ?_ | refine thenA_ret ?_ | refine thenA_exit ?_ | refine thenA_normal ?_)
      simp (maxSteps := 4000000) only [go_sem, hardF, retG]
end Go.Ab
namespace Go.Ab
open Go.RowKit Go.Proofs
set_option maxHeartbeats 8000000
set_option maxRecDepth 20000
attribute [local irreducible] WalkL Walk
theorem intRows_set (l : List Int) (k : Nat) (x : Int) : (intRows l).set k [.i x] = intRows (l.set k x) := by simp [intRows, List.map_set]
theorem hardF_range {g : Grid} {H : Nat} (hg : GridOk g H) (burn : List Int) : 0 ≤ (hardF g burn).2 ∧ (hardF g burn).2 ≤ H ∧ ∃ l ∈ g.scen, (hardF g burn).1 = leastW g.p l ∧ (hardF g burn).2 = lastsW g.p burn (leastW g.p l) := by
  have key : ∀ (l : List (List Hour)) (a : List Sky × Int), (∀ x ∈ l, x ∈ g.scen) → (l ≠ [] ∨ (0 ≤ a.2 ∧ a.2 ≤ H ∧ ∃ x ∈ g.scen, a.1 = leastW g.p x ∧ a.2 = lastsW g.p burn (leastW g.p x))) → (a.2 = (H : Int) + 1 ∨ (0 ≤ a.2 ∧ a.2 ≤ H ∧ ∃ x ∈ g.scen, a.1 = leastW g.p x ∧ a.2 = lastsW g.p burn (leastW g.p x))) →
      0 ≤ (l.foldl (hardStep g.p burn) a).2 ∧ (l.foldl (hardStep g.p burn) a).2 ≤ H ∧ ∃ x ∈ g.scen, (l.foldl (hardStep g.p burn) a).1 = leastW g.p x ∧ (l.foldl (hardStep g.p burn) a).2 = lastsW g.p burn (leastW g.p x) := by
    intro l
    induction l with
    | nil =>
      intro a _ h _
      rcases h with h | h
      · exact absurd rfl h
      · exact h
    | cons x xs ih =>
      intro a hm _ h2
      have hx := hm x (by simp)
      have hl : lastsW g.p burn (leastW g.p x) ≤ H := by
        have := lastsW_le g.p burn (leastW g.p x)
        rw [leastW_len, hg.len x hx] at this
        exact this
      rw [List.foldl_cons]
      have good : 0 ≤ (hardStep g.p burn a x).2 ∧ (hardStep g.p burn a x).2 ≤ H ∧ ∃ y ∈ g.scen, (hardStep g.p burn a x).1 = leastW g.p y ∧ (hardStep g.p burn a x).2 = lastsW g.p burn (leastW g.p y) := by
        unfold hardStep
        split
        · exact ⟨by dsimp only; omega, by dsimp only; omega, x, hx, rfl, rfl⟩
        · rcases h2 with h2 | h2
          · omega
          · exact h2
      exact ih _ (fun y hy => hm y (by simp [hy])) (.inr good) (.inr good)
  exact key g.scen _ (fun _ h => h) (.inl hg.scen.1) (.inl (by dsimp only; rw [hg.hours]))
def downF (r : Int) (burn : List Int) : Nat → Int
  | 0 => -1
  | k + 1 => if getI burn k = r then downF r burn k else k
theorem downF_range (r : Int) (burn : List Int) : ∀ k, -1 ≤ downF r burn k ∧ downF r burn k < k ∧ (0 ≤ downF r burn k → getI burn (downF r burn k) ≠ r)
  | 0 => by simp [downF]
  | k + 1 => by
    have := downF_range r burn k
    rw [downF]
    split
    · omega
    · rename_i h; exact ⟨by omega, by omega, fun _ => h⟩
def planF (g : Grid) : Nat → List Int → Int → Option (List Int × Int)
  | 0, _, _ => none
  | f + 1, burn, units =>
    if (hardF g burn).2 = g.hours then some (burn, units) else
    if downF g.p.rate burn ((hardF g burn).2.toNat + 1) < 0 ∨ units = g.p.units then none else
    planF g f (burn.set (downF g.p.rate burn ((hardF g burn).2.toNat + 1)).toNat (getI burn (downF g.p.rate burn ((hardF g burn).2.toNat + 1)) + 1)) (units + 1)
def planG (g : Grid) : Option (List Int × Int) := planF g (g.p.units.toNat + 1) (List.replicate g.hours.toNat 0) 0
def planV : Option (List Int × Int) → DV
  | some (b, u) => .tup [.sl (intRows b), .i u, .bool true]
  | none => .tup [.sl [], .i 0, .bool false]
theorem zf80 (g : Grid) (H : Nat) (hg : GridOk g H) : Fn Tryz.prog 80 [.ptr g.cells 0] (planV (planG g)) := by
  have hpos := hg.pos
  have hrate := hg.rate
  have hunits := hg.units
  have hh := hg.hours
  have hmk : (H : Int) ≤ 1099511627776 := by omega
  have hrep : List.replicate H [DV.int .i64 0] = intRows (List.replicate H 0) := by simp [intRows]
  refine fn_walk 63 Tryz.call80 Tryz.func80 rfl (by decide) fun J => ?_
  simp (maxSteps := 4000000) only [go_sem, St.start, Tryz.ntmps80, Tryz.results80, Grid.cells]
  repeat (first | refine walkL_seq ?_ | refine walkL_skip ?_ | refine walkL_block ?_ | (refine walkL_region fun K hK => ?_; simp (maxSteps := 4000000) only [go_sem, hh, hmk, hrep]; refine hK _ ?_; clear hK K) | refine walkL_nil ?_ | refine walkL_ret ?_ | refine walkL_exit ?_ | refine blockA_here ?_ | refine blockA_other rfl ?_ | refine blockA_ret ?_ | refine blockA_normal ?_ | refine thenA_ret ?_ | refine thenA_exit ?_ | refine thenA_normal ?_)
  refine walkL_loopS (fun (a : List Int × Int) => [(6, .d (.i a.2))]) (fun a => [(13, some (.arr 3 1 (intRows a.1)))])
    (fun a => 0 ≤ a.2 ∧ a.2 ≤ g.p.units ∧ a.1.length = H ∧ (∀ x ∈ a.1, 0 ≤ x ∧ x ≤ g.p.rate) ∧ planG g = planF g ((g.p.units - a.2).toNat + 1) a.1 a.2) (fun a => (g.p.units - a.2).toNat) (List.replicate H 0, 0) ?_
    ⟨Int.le_refl _, hunits.1, by simp, by intro x hx; rw [List.eq_of_mem_replicate hx]; exact ⟨Int.le_refl _, hrate.1⟩, by dsimp only; rw [planG, hh, Int.sub_zero, intVal]⟩ ?_
  · simp (maxSteps := 4000000) only [go_sem]
    refine weak_of [] ?_ ?_ rfl rfl <;> simp [lessT, lessM, lessB, AV.less]
  · rintro ⟨burn, units⟩ ⟨hu0, hu1, hbl, hbr, hplan⟩
    dsimp only at hu0 hu1 hbl hbr hplan
    have h51 := zf78m g H burn hg hbl
    obtain ⟨r1, r2, _⟩ := hardF_range hg burn
    obtain ⟨hd, hhd⟩ : ∃ hd, hd = hardF g burn := ⟨_, rfl⟩
    rw [← hhd] at h51 r1 r2
    rw [planF, ← hhd, hh] at hplan
    rw [Grid.cells, hh] at h51
    simp (maxSteps := 4000000) only [go_sem]
    repeat (first | refine walkL_seq ?_ | refine walkL_skip ?_ | refine walkL_block ?_ | (refine walkL_region fun K hK => ?_; simp (maxSteps := 4000000) only [go_sem, hh]; refine hK _ ?_; clear hK K) | refine walkL_nil ?_ | refine walkL_ret ?_ | refine walkL_exit ?_ | refine blockA_here ?_ | refine blockA_other rfl ?_ | refine blockA_ret ?_ | refine blockA_normal ?_ | refine thenA_ret ?_ | refine thenA_exit ?_ | refine thenA_normal ?_)
    refine walkL_region fun K hK => ?_
    simp (maxSteps := 4000000) only [go_sem]
    refine ⟨_, .inPlace (n := 13) (hf := h51) (hn := rfl) (hb := rfl) (hla := rfl) (ha := argG_all (by repeat (first | exact trivial | refine And.intro ?_ ?_ | exact argG_ren rfl | exact argG_deep rfl rfl))), ?_⟩
    simp (maxSteps := 4000000) only [go_sem]
    refine hK _ ?_
    clear hK K
    repeat (first | refine walkL_seq ?_ | refine walkL_skip ?_ | refine walkL_block ?_ | (refine walkL_region fun K hK => ?_; simp (maxSteps := 4000000) only [go_sem, hh]; refine hK _ ?_; clear hK K) | refine walkL_nil ?_ | refine walkL_ret ?_ | refine walkL_exit ?_ | refine blockA_here ?_ | refine blockA_other rfl ?_ | refine blockA_ret ?_ | refine blockA_normal ?_ | refine thenA_ret ?_ | refine thenA_exit ?_ | refine thenA_normal ?_)
    by_cases hfin : hd.2 = (H : Int)
    · rw [if_pos hfin] at hplan
      have hq : (hd.2 == (H : Int)) = true := by simpa using hfin
      rw [hplan, planV]
      simp (maxSteps := 4000000) only [go_sem, hq]
      repeat (first | refine walkL_true rfl ?_ | refine walkL_false rfl ?_ | refine walkL_seq ?_ | refine walkL_skip ?_ | refine walkL_block ?_ | (refine walkL_region fun K hK => ?_; simp (maxSteps := 4000000) only [go_sem]; refine hK _ ?_; clear hK K) | refine walkL_nil ?_ | refine walkL_ret ?_ | refine walkL_exit ?_ | refine blockA_here ?_ | refine blockA_other rfl ?_ | refine blockA_ret ?_ | refine blockA_normal ?_ | refine thenA_ret ?_ | refine thenA_exit ?_ | refine thenA_normal ?_)
      simp (maxSteps := 4000000) only [go_sem]
    · rw [if_neg hfin] at hplan
      have hq : (hd.2 == (H : Int)) = false := by simpa using hfin
      obtain ⟨n, hn⟩ : ∃ n : Nat, hd.2 = n := ⟨hd.2.toNat, by omega⟩
      have hnH : n < H := by omega
      rw [hn, intVal] at hplan
      obtain ⟨D, hD⟩ : ∃ D, D = downF g.p.rate burn (n + 1) := ⟨_, rfl⟩
      rw [← hD] at hplan
      simp (maxSteps := 4000000) only [go_sem, hq]
      refine walkL_false rfl ?_
      simp (maxSteps := 4000000) only [go_sem, hn]
      repeat (first | refine walkL_seq ?_ | refine walkL_skip ?_ | refine walkL_block ?_ | (refine walkL_region fun K hK => ?_; simp (maxSteps := 4000000) only [go_sem]; refine hK _ ?_; clear hK K) | refine walkL_nil ?_ | refine walkL_ret ?_ | refine walkL_exit ?_ | refine blockA_here ?_ | refine blockA_other rfl ?_ | refine blockA_ret ?_ | refine blockA_normal ?_ | refine thenA_ret ?_ | refine thenA_exit ?_ | refine thenA_normal ?_)
      refine walkL_loopS (fun (t : Int) => [(8, .d (.i t))]) (fun _ => []) (fun t => -1 ≤ t ∧ t < H ∧ D = downF g.p.rate burn (t + 1).toNat) (fun t => (t + 1).toNat) (n : Int) ?_
        ⟨by omega, by omega, by rw [hD]; congr 1⟩ ?_
      · simp (maxSteps := 4000000) only [go_sem]
        refine weak_of [] ?_ ?_ rfl rfl <;> simp [lessT, lessM, lessB, AV.less]
      · rintro t ⟨ht1, ht2, htd⟩
        simp (maxSteps := 4000000) only [go_sem]
        by_cases ht : t ≥ 0
        · obtain ⟨j, rfl⟩ : ∃ j : Nat, t = j := ⟨t.toNat, by omega⟩
          have hd1 : decide ((j : Int) ≥ 0) = true := by simp
          have hjl : j < burn.length := by omega
          have gj : (intRows burn)[j]? = some [.i (getI burn j)] := by have := intRows_get (l := burn) (i := (j : Int)) (by omega) (by simpa using hjl); simpa using this
          rw [show ((j : Int) + 1).toNat = j + 1 by omega, downF] at htd
          have hwj : IntKind.i64.wrap ((j : Int) - 1) = (j : Int) - 1 := wr_small (by omega)
          by_cases he : getI burn j = g.p.rate
          · rw [if_pos he] at htd
            have hd2 : (getI burn j == g.p.rate) = true := by simpa using he
            repeat (first | refine walkL_true rfl ?_ | refine walkL_false rfl ?_ | refine walkL_seq ?_ | refine walkL_skip ?_ | refine walkL_block ?_ | (refine walkL_region fun K hK => ?_; simp (maxSteps := 4000000) only [go_sem, hd1, gj, hjl, hd2, hwj]; refine hK _ ?_; clear hK K) | (refine walkL_drawn (by kernel_rfl) (by kernel_rfl) fun K hK => ?_; simp (maxSteps := 4000000) only [go_sem, hd1, gj, hjl, hd2, hwj]; refine ⟨by kernel_rfl, hK _ ?_⟩; clear hK K) | refine walkL_nil ?_ | refine walkL_ret ?_ | refine walkL_exit ?_ | refine blockA_here ?_ | refine blockA_other rfl ?_ | refine blockA_ret ?_ | refine blockA_normal ?_ | refine thenA_ret ?_ | refine thenA_exit ?_ | refine thenA_normal ?_)
            refine ⟨rfl, (j : Int) - 1, ?_, ⟨by omega, by omega, by rw [htd]; congr 1; omega⟩, by omega⟩
            refine weak_of [] ?_ ?_ rfl rfl <;> simp [lessT, lessM, lessB, AV.less]
          · rw [if_neg he] at htd
            have hd2 : (getI burn j == g.p.rate) = false := by simpa using he
            rw [htd] at hplan
            have hjn : ¬ (j : Int) < 0 := by omega
            have hd3 : decide ((j : Int) < 0) = false := by simp
            have hbj := hbr (getI burn j) (by
              have : burn[j]? = some (getI burn j) := by unfold getI; rw [List.getD, intVal, List.getElem?_eq_getElem hjl]; rfl
              exact List.mem_of_getElem? this)
            have hwb : IntKind.i64.wrap (getI burn j + 1) = getI burn j + 1 := wr_small (by omega)
            repeat (first | refine walkL_true rfl ?_ | refine walkL_false rfl ?_ | refine walkL_seq ?_ | refine walkL_skip ?_ | refine walkL_block ?_ | (refine walkL_region fun K hK => ?_; simp (maxSteps := 4000000) only [go_sem, hd1, gj, hjl, hd2, hwj]; refine hK _ ?_; clear hK K) | (refine walkL_drawn (by kernel_rfl) (by kernel_rfl) fun K hK => ?_; simp (maxSteps := 4000000) only [go_sem, hd1, gj, hjl, hd2, hwj]; refine ⟨by kernel_rfl, hK _ ?_⟩; clear hK K) | refine walkL_nil ?_ | refine walkL_ret ?_ | refine walkL_exit ?_ | refine blockA_here ?_ | refine blockA_other rfl ?_ | refine blockA_ret ?_ | refine blockA_normal ?_ | refine thenA_ret ?_ | refine thenA_exit ?_ | refine thenA_normal ?_)
            by_cases hu : units = g.p.units
            · rw [if_pos (.inr hu)] at hplan
              have hd4 : (units == g.p.units) = true := by simpa using hu
              rw [hplan, planV]
              repeat (first | refine walkL_true rfl ?_ | refine walkL_false rfl ?_ | refine walkL_seq ?_ | refine walkL_skip ?_ | refine walkL_block ?_ | (refine walkL_region fun K hK => ?_; simp (maxSteps := 4000000) only [go_sem, hd3, hd4]; refine hK _ ?_; clear hK K) | refine walkL_nil ?_ | refine walkL_ret ?_ | refine walkL_exit ?_ | refine blockA_here ?_ | refine blockA_other rfl ?_ | refine blockA_ret ?_ | refine blockA_normal ?_ | refine thenA_ret ?_ | refine thenA_exit ?_ | refine thenA_normal ?_)
              simp (maxSteps := 4000000) only [go_sem]
              try rfl
            · rw [if_neg (by intro h; rcases h with h | h; exact hjn h; exact hu h)] at hplan
              have hd4 : (units == g.p.units) = false := by simpa using hu
              have hwu : IntKind.i64.wrap (units + 1) = units + 1 := wr_small (by omega)
              repeat (first | refine walkL_true rfl ?_ | refine walkL_false rfl ?_ | refine walkL_seq ?_ | refine walkL_skip ?_ | refine walkL_block ?_ | (refine walkL_region fun K hK => ?_; simp (maxSteps := 4000000) only [go_sem, hd3, hd4, gj, hjl, hwb, hwu]; refine hK _ ?_; clear hK K) | refine walkL_nil ?_ | refine walkL_ret ?_ | refine walkL_exit ?_ | refine blockA_here ?_ | refine blockA_other rfl ?_ | refine blockA_ret ?_ | refine blockA_normal ?_ | refine thenA_ret ?_ | refine thenA_exit ?_ | refine thenA_normal ?_)
              refine ⟨rfl, (burn.set j (getI burn j + 1), units + 1), ?_, ⟨by dsimp only; omega, by dsimp only; omega, by dsimp only; simpa using hbl, ?_, ?_⟩, by dsimp only; omega⟩
              · dsimp only
                rw [← intRows_set]
                refine weak_of [] ?_ ?_ rfl rfl <;> simp [lessT, lessM, lessB, AV.less]
              · dsimp only
                intro x hx
                rcases List.mem_or_eq_of_mem_set hx with hx | hx
                · exact hbr x hx
                · omega
              · dsimp only
                rw [hplan, show (g.p.units - units).toNat = (g.p.units - (units + 1)).toNat + 1 by omega]
                simp
        · have hd1 : decide (t ≥ 0) = false := by simpa using ht
          have htt : t = -1 := by omega
          subst htt
          have hd3 : decide ((-1 : Int) < 0) = true := by decide
          rw [show ((-1 : Int) + 1).toNat = 0 by decide, downF] at htd
          rw [htd, if_pos (.inl (by decide))] at hplan
          rw [hplan, planV]
          repeat (first | refine walkL_true rfl ?_ | refine walkL_false rfl ?_ | refine walkL_seq ?_ | refine walkL_skip ?_ | refine walkL_block ?_ | (refine walkL_region fun K hK => ?_; simp (maxSteps := 4000000) only [go_sem, hd1]; refine hK _ ?_; clear hK K) | (refine walkL_drawn (by kernel_rfl) (by kernel_rfl) fun K hK => ?_; simp (maxSteps := 4000000) only [go_sem, hd1]; refine ⟨by kernel_rfl, hK _ ?_⟩; clear hK K) | refine walkL_nil ?_ | refine walkL_ret ?_ | refine walkL_exit ?_ | refine blockA_here ?_ | refine blockA_other rfl ?_ | refine blockA_ret ?_ | refine blockA_normal ?_ | refine thenA_ret ?_ | refine thenA_exit ?_ | refine thenA_normal ?_)
          repeat (first | refine walkL_true rfl ?_ | refine walkL_false rfl ?_ | refine walkL_seq ?_ | refine walkL_skip ?_ | refine walkL_block ?_ | (refine walkL_region fun K hK => ?_; simp (maxSteps := 4000000) only [go_sem, hd3]; refine hK _ ?_; clear hK K) | refine walkL_nil ?_ | refine walkL_ret ?_ | refine walkL_exit ?_ | refine blockA_here ?_ | refine blockA_other rfl ?_ | refine blockA_ret ?_ | refine blockA_normal ?_ | refine thenA_ret ?_ | refine thenA_exit ?_ | refine thenA_normal ?_)
          simp (maxSteps := 4000000) only [go_sem]
          try rfl
theorem grid_ok {p : Plant} (h : openE p [] = 0) : ∃ H : Nat, GridOk (gridOf p) H ∧ (H : Int) = hoursOf p := by
  unfold openE at h
  split at h
  · rename_i hlk
    obtain ⟨hg, hsi, hpn⟩ := look_zero hlk
    cases hb : plantBad p (hoursOf p) with
    | true => rw [hb] at h; cases h
    | false =>
      have hF := hg.scen
      have hH := hg.hours
      refine ⟨(hd0 p.scen).length, ?_, rfl⟩
      simp only [plantBad, Bool.or_eq_false_iff, Bool.not_eq_false', within_iff] at hb
      obtain ⟨b1, b2, _, _, _, _, _, _, _, b10, b11⟩ := hb
      simp only [powerB, Bool.and_eq_true, beq_iff_eq, hoursOf] at b1 b2
      have hpl := possFrom_len p.seen p.scen 0
      refine ⟨rfl, hH, by have := b1.1; simp only [gridOf]; omega, by have := b2.1; simp only [gridOf]; omega, ⟨?_, ?_⟩, fun l hl => ?_, by simpa [gridOf] using b10, by simpa [gridOf] using b11⟩
      · simp only [gridOf, scensOf]
        intro e
        exact hpn (List.map_eq_nil_iff.1 e)
      · simp only [gridOf, scens_len, possL]
        omega
      · simp only [gridOf, scensOf] at hl
        obtain ⟨⟨k, l'⟩, hm, rfl⟩ := List.mem_map.1 hl
        obtain ⟨i, hi⟩ := List.getElem?_of_mem hm
        obtain ⟨l, _, hl2, hl3, _⟩ := poss_get p.scen 0 i k l' hi
        dsimp only
        rw [hl3, seenHours_len, hg.len l (List.mem_of_getElem? hl2)]
  · rename_i hlk
    exact absurd h hlk
def planP (p : Plant) : List Int × Int × Int :=
  if openE p [] = 0 then (match planG (gridOf p) with
    | some (b, u) => (b, u, 0)
    | none => ([], 0, 3)) else ([], 0, openE p [])
theorem zf35 (p : Plant) (hs : PlantSmall p) : Fn Tryz.prog 35 [.agg p.cells] (.tup [.sl (intRows (planP p).1), .i (planP p).2.1, .i (planP p).2.2]) := by
  have h44 := zf77 p [] hs (by simp) (by simp)
  have e0 : listRows [] = [] := rfl
  rw [e0, Plant.cells] at h44
  refine fn_walk 25 Tryz.call35 Tryz.func35 rfl (by decide) fun J => ?_
  simp (maxSteps := 4000000) only [go_sem, St.start, Tryz.ntmps35, Tryz.results35, Plant.cells]
  by_cases hz : openE p [] = 0
  · obtain ⟨H, hg, _⟩ := grid_ok hz
    have h45 := zf80 (gridOf p) H hg
    rw [if_pos hz, hz] at h44
    rw [planP, if_pos hz]
    obtain ⟨g, hgg⟩ : ∃ g, g = gridOf p := ⟨_, rfl⟩
    rw [← hgg] at h44 h45 ⊢
    rw [Grid.cells] at h44 h45
    cases hp : planG g with
    | none =>
      rw [hp, planV] at h45
      repeat (first | refine walkL_true rfl ?_ | refine walkL_false rfl ?_ | refine walkL_seq ?_ | refine walkL_skip ?_ | refine walkL_block ?_ | (refine walkL_region fun K hK => ?_; simp (maxSteps := 4000000) only [go_sem]; (repeat (first | (refine ⟨_, .lent (hf := h44) (hd := rfl) (hr := rfl), ?_⟩; simp (maxSteps := 4000000) only [go_sem]) | (refine ⟨_, .lent (hf := h45) (hd := rfl) (hr := rfl), ?_⟩; simp (maxSteps := 4000000) only [go_sem]) | (refine ⟨_, .given (hf := h44) (hd := rfl) (ha := rfl), ?_⟩; simp (maxSteps := 4000000) only [go_sem]) | (refine ⟨_, .given (hf := h45) (hd := rfl) (ha := rfl), ?_⟩; simp (maxSteps := 4000000) only [go_sem]))); refine hK _ ?_; clear hK K) | refine walkL_nil ?_ | refine walkL_ret ?_ | refine walkL_exit ?_ | refine blockA_here ?_ | refine blockA_other rfl ?_ | refine blockA_ret ?_ | refine blockA_normal ?_ | refine thenA_ret ?_ | refine thenA_exit ?_ | refine thenA_normal ?_)
      simp (maxSteps := 4000000) only [go_sem]
      try rfl
    | some bu =>
      obtain ⟨b, u⟩ := bu
      rw [hp, planV] at h45
      repeat (first | refine walkL_true rfl ?_ | refine walkL_false rfl ?_ | refine walkL_seq ?_ | refine walkL_skip ?_ | refine walkL_block ?_ | (refine walkL_region fun K hK => ?_; simp (maxSteps := 4000000) only [go_sem]; (repeat (first | (refine ⟨_, .lent (hf := h44) (hd := rfl) (hr := rfl), ?_⟩; simp (maxSteps := 4000000) only [go_sem]) | (refine ⟨_, .lent (hf := h45) (hd := rfl) (hr := rfl), ?_⟩; simp (maxSteps := 4000000) only [go_sem]) | (refine ⟨_, .given (hf := h44) (hd := rfl) (ha := rfl), ?_⟩; simp (maxSteps := 4000000) only [go_sem]) | (refine ⟨_, .given (hf := h45) (hd := rfl) (ha := rfl), ?_⟩; simp (maxSteps := 4000000) only [go_sem]))); refine hK _ ?_; clear hK K) | refine walkL_nil ?_ | refine walkL_ret ?_ | refine walkL_exit ?_ | refine blockA_here ?_ | refine blockA_other rfl ?_ | refine blockA_ret ?_ | refine blockA_normal ?_ | refine thenA_ret ?_ | refine thenA_exit ?_ | refine thenA_normal ?_)
      simp (maxSteps := 4000000) only [go_sem]
  · rw [if_neg hz] at h44
    rw [planP, if_neg hz]
    have hq : (openE p [] != 0) = true := by simpa using hz
    repeat (first | refine walkL_true rfl ?_ | refine walkL_false rfl ?_ | refine walkL_seq ?_ | refine walkL_skip ?_ | refine walkL_block ?_ | (refine walkL_region fun K hK => ?_; simp (maxSteps := 4000000) only [go_sem, hq]; (repeat (first | (refine ⟨_, .lent (hf := h44) (hd := rfl) (hr := rfl), ?_⟩; simp (maxSteps := 4000000) only [go_sem, hq]) | (refine ⟨_, .given (hf := h44) (hd := rfl) (ha := rfl), ?_⟩; simp (maxSteps := 4000000) only [go_sem, hq]))); refine hK _ ?_; clear hK K) | refine walkL_nil ?_ | refine walkL_ret ?_ | refine walkL_exit ?_ | refine blockA_here ?_ | refine blockA_other rfl ?_ | refine blockA_ret ?_ | refine blockA_normal ?_ | refine thenA_ret ?_ | refine thenA_exit ?_ | refine thenA_normal ?_)
    simp (maxSteps := 4000000) only [go_sem]
    try rfl
end Go.Ab
namespace Go.Ab
open Go.RowKit Go.Proofs
set_option maxHeartbeats 8000000
set_option maxRecDepth 20000
attribute [local irreducible] WalkL Walk
theorem zf101 (n lo hi : Int) : Fn Tryz.prog 101 [.i n, .i lo, .i hi] (.bool (withinB n lo hi)) := by
  refine fn_walk 15 Tryz.call101 Tryz.func101 rfl (by decide) fun J => ?_
  simp (maxSteps := 4000000) only [go_sem, St.start, Tryz.ntmps101, Tryz.results101]
  by_cases h : lo ≤ n
  · repeat (first | refine walkL_seq ?_ | refine walkL_skip ?_ | refine walkL_block ?_ | (refine walkL_region fun K hK => ?_; simp (maxSteps := 4000000) only [go_sem, h, ge_iff_le]; refine hK _ ?_; clear hK K) | refine walkL_nil ?_ | refine walkL_ret ?_ | refine walkL_exit ?_ | refine blockA_here ?_ | refine blockA_other rfl ?_ | refine blockA_ret ?_ | refine blockA_normal ?_ | refine thenA_ret ?_ | refine thenA_exit ?_ | refine thenA_normal ?_)
    simp (maxSteps := 4000000) only [go_sem, withinB, h]
  · repeat (first | refine walkL_seq ?_ | refine walkL_skip ?_ | refine walkL_block ?_ | (refine walkL_region fun K hK => ?_; simp (maxSteps := 4000000) only [go_sem, h, ge_iff_le]; refine hK _ ?_; clear hK K) | refine walkL_nil ?_ | refine walkL_ret ?_ | refine walkL_exit ?_ | refine blockA_here ?_ | refine blockA_other rfl ?_ | refine blockA_ret ?_ | refine blockA_normal ?_ | refine thenA_ret ?_ | refine thenA_exit ?_ | refine thenA_normal ?_)
    simp (maxSteps := 4000000) only [go_sem, withinB, h]
theorem zf107 (s : Span) (lo hi : Int) : Fn Tryz.prog 107 [.agg s.row, .i lo, .i hi] (.bool (orderedB s lo hi)) := by
  refine fn_walk 24 Tryz.call107 Tryz.func107 rfl (by decide) fun J => ?_
  simp (maxSteps := 4000000) only [go_sem, St.start, Tryz.ntmps107, Tryz.results107, Span.row]
  by_cases h : lo ≤ s.lo <;> by_cases h2 : s.lo ≤ s.hi
  all_goals
    repeat (first | refine walkL_seq ?_ | refine walkL_skip ?_ | refine walkL_block ?_ | (refine walkL_region fun K hK => ?_; simp (maxSteps := 4000000) only [go_sem, h, h2, ge_iff_le]; refine hK _ ?_; clear hK K) | refine walkL_nil ?_ | refine walkL_ret ?_ | refine walkL_exit ?_ | refine blockA_here ?_ | refine blockA_other rfl ?_ | refine blockA_ret ?_ | refine blockA_normal ?_ | refine thenA_ret ?_ | refine thenA_exit ?_ | refine thenA_normal ?_)
    simp (maxSteps := 4000000) only [go_sem, orderedB, h, h2]
theorem zf194 (n : Int) (s : Span) : Fn Tryz.prog 194 [.i n, .agg s.row] (.bool (withinB n s.lo s.hi)) := by
  have h97 := zf101 n s.lo s.hi
  refine fn_walk 11 Tryz.call194 Tryz.func194 rfl (by decide) fun J => ?_
  simp (maxSteps := 4000000) only [go_sem, St.start, Tryz.ntmps194, Tryz.results194, Span.row]
  repeat (first | refine walkL_seq ?_ | refine walkL_skip ?_ | refine walkL_block ?_ | (refine walkL_region fun K hK => ?_; simp (maxSteps := 4000000) only [go_sem]; (repeat (first | (refine ⟨_, .lent (hf := h97) (hd := rfl) (hr := rfl), ?_⟩; simp (maxSteps := 4000000) only [go_sem]) | (refine ⟨_, .given (hf := h97) (hd := rfl) (ha := rfl), ?_⟩; simp (maxSteps := 4000000) only [go_sem]))); refine hK _ ?_; clear hK K) | refine walkL_nil ?_ | refine walkL_ret ?_ | refine walkL_exit ?_ | refine blockA_here ?_ | refine blockA_other rfl ?_ | refine blockA_ret ?_ | refine blockA_normal ?_ | refine thenA_ret ?_ | refine thenA_exit ?_ | refine thenA_normal ?_)
  simp (maxSteps := 4000000) only [go_sem]
theorem zf48 (F : List (List Hour)) (h0 : List Hour) (h : F[0]? = some h0) : Fn Tryz.prog 48 [.agg [.sl (scenRows F)]] (.i h0.length) := by
  have g0 := scenRows_at h
  refine fn_walk 9 Tryz.call48 Tryz.func48 rfl (by decide) fun J => ?_
  simp (maxSteps := 4000000) only [go_sem, St.start, Tryz.ntmps48, Tryz.results48]
  repeat (first | refine walkL_seq ?_ | refine walkL_skip ?_ | refine walkL_block ?_ | (refine walkL_region fun K hK => ?_; simp (maxSteps := 4000000) only [go_sem, g0]; refine hK _ ?_; clear hK K) | refine walkL_nil ?_ | refine walkL_ret ?_ | refine walkL_exit ?_ | refine blockA_here ?_ | refine blockA_other rfl ?_ | refine blockA_ret ?_ | refine blockA_normal ?_ | refine thenA_ret ?_ | refine thenA_exit ?_ | refine thenA_normal ?_)
  simp (maxSteps := 4000000) only [go_sem]
theorem zf81 (F : List (List Hour)) (hs : ForeSmall F) : Fn Tryz.prog 81 [.agg [.sl (scenRows F)]] (.i (foreF F)) := by
  have h1 := hs.scen
  have h97 := zf101 F.length 1 6
  cases q1 : withinB (F.length : Int) 1 6
  · have e : foreF F = 50 := by simp [foreF, badF, q1]
    rw [e]
    rw [q1] at h97
    refine fn_walk 66 Tryz.call81 Tryz.func81 rfl (by decide) fun J => ?_
    simp (maxSteps := 4000000) only [go_sem, St.start, Tryz.ntmps81, Tryz.results81]
    repeat (first | refine walkL_true rfl ?_ | refine walkL_false rfl ?_ | refine walkL_seq ?_ | refine walkL_skip ?_ | refine walkL_block ?_ | (refine walkL_region fun K hK => ?_; simp (maxSteps := 4000000) only [go_sem]; (repeat (first | (refine ⟨_, .lent (hf := h97) (hd := rfl) (hr := rfl), ?_⟩; simp (maxSteps := 4000000) only [go_sem]) | (refine ⟨_, .given (hf := h97) (hd := rfl) (ha := rfl), ?_⟩; simp (maxSteps := 4000000) only [go_sem]))); refine hK _ ?_; clear hK K) | refine walkL_nil ?_ | refine walkL_ret ?_ | refine walkL_exit ?_ | refine blockA_here ?_ | refine blockA_other rfl ?_ | refine blockA_ret ?_ | refine blockA_normal ?_ | refine thenA_ret ?_ | refine thenA_exit ?_ | refine thenA_normal ?_)
    simp (maxSteps := 4000000) only [go_sem]
  · have hl := within_iff.1 q1
    rw [q1] at h97
    have h0 := headD_get (F := F) (by omega)
    obtain ⟨H0, hH0⟩ : ∃ H0, H0 = hd0 F := ⟨_, rfl⟩
    rw [← hH0] at h0
    have hm0 : H0 ∈ F := List.mem_of_getElem? h0
    have h71 := zf48 F H0 h0
    have h97b := zf101 H0.length 1 48
    have hsm := hs.hours H0 hm0
    have hbadx : ∀ x ∈ F, scenB H0 x = false → foreF F = 50 := fun x hx hf => by
      have : F.all (scenB H0) = false := by
        obtain ⟨i, hi⟩ := List.getElem?_of_mem hx
        exact all_of_get hi hf
      simp [foreF, badF, ← hH0, this]
    cases q2 : withinB (H0.length : Int) 1 48
    · have e : foreF F = 50 := hbadx H0 hm0 (by simp [scenB, q2])
      rw [e]
      rw [q2] at h97b
      refine fn_walk 66 Tryz.call81 Tryz.func81 rfl (by decide) fun J => ?_
      simp (maxSteps := 4000000) only [go_sem, St.start, Tryz.ntmps81, Tryz.results81]
      repeat (first | refine walkL_true rfl ?_ | refine walkL_false rfl ?_ | refine walkL_seq ?_ | refine walkL_skip ?_ | refine walkL_block ?_ | (refine walkL_region fun K hK => ?_; simp (maxSteps := 4000000) only [go_sem]; (repeat (first | (refine ⟨_, .lent (hf := h97) (hd := rfl) (hr := rfl), ?_⟩; simp (maxSteps := 4000000) only [go_sem]) | (refine ⟨_, .lent (hf := h71) (hd := rfl) (hr := rfl), ?_⟩; simp (maxSteps := 4000000) only [go_sem]) | (refine ⟨_, .lent (hf := h97b) (hd := rfl) (hr := rfl), ?_⟩; simp (maxSteps := 4000000) only [go_sem]) | (refine ⟨_, .given (hf := h97) (hd := rfl) (ha := rfl), ?_⟩; simp (maxSteps := 4000000) only [go_sem]) | (refine ⟨_, .given (hf := h71) (hd := rfl) (ha := rfl), ?_⟩; simp (maxSteps := 4000000) only [go_sem]) | (refine ⟨_, .given (hf := h97b) (hd := rfl) (ha := rfl), ?_⟩; simp (maxSteps := 4000000) only [go_sem]))); refine hK _ ?_; clear hK K) | refine walkL_nil ?_ | refine walkL_ret ?_ | refine walkL_exit ?_ | refine blockA_here ?_ | refine blockA_other rfl ?_ | refine blockA_ret ?_ | refine blockA_normal ?_ | refine thenA_ret ?_ | refine thenA_exit ?_ | refine thenA_normal ?_)
      simp (maxSteps := 4000000) only [go_sem]
    · rw [q2] at h97b
      refine fn_walk 66 Tryz.call81 Tryz.func81 rfl (by decide) fun J => ?_
      simp (maxSteps := 4000000) only [go_sem, St.start, Tryz.ntmps81, Tryz.results81]
      repeat (first | refine walkL_true rfl ?_ | refine walkL_false rfl ?_ | refine walkL_seq ?_ | refine walkL_skip ?_ | refine walkL_block ?_ | (refine walkL_region fun K hK => ?_; simp (maxSteps := 4000000) only [go_sem]; (repeat (first | (refine ⟨_, .lent (hf := h97) (hd := rfl) (hr := rfl), ?_⟩; simp (maxSteps := 4000000) only [go_sem]) | (refine ⟨_, .lent (hf := h71) (hd := rfl) (hr := rfl), ?_⟩; simp (maxSteps := 4000000) only [go_sem]) | (refine ⟨_, .lent (hf := h97b) (hd := rfl) (hr := rfl), ?_⟩; simp (maxSteps := 4000000) only [go_sem]) | (refine ⟨_, .given (hf := h97) (hd := rfl) (ha := rfl), ?_⟩; simp (maxSteps := 4000000) only [go_sem]) | (refine ⟨_, .given (hf := h71) (hd := rfl) (ha := rfl), ?_⟩; simp (maxSteps := 4000000) only [go_sem]) | (refine ⟨_, .given (hf := h97b) (hd := rfl) (ha := rfl), ?_⟩; simp (maxSteps := 4000000) only [go_sem]))); refine hK _ ?_; clear hK K) | refine walkL_nil ?_ | refine walkL_ret ?_ | refine walkL_exit ?_ | refine blockA_here ?_ | refine blockA_other rfl ?_ | refine blockA_ret ?_ | refine blockA_normal ?_ | refine thenA_ret ?_ | refine thenA_exit ?_ | refine thenA_normal ?_)
      refine walkL_loopS (fun (i : Nat) => [(3, .d (.i i))]) (fun _ => []) (fun i => i ≤ F.length ∧ (F.take i).all (scenB H0) = true) (fun i => F.length - i) 0 ?_ ⟨Nat.zero_le _, rfl⟩ ?_
      · simp (maxSteps := 4000000) only [go_sem]
        refine weak_of [] ?_ ?_ rfl rfl <;> simp [lessT, lessM, lessB, AV.less]
      · intro i ⟨hi, hall⟩
        simp (maxSteps := 4000000) only [go_sem]
        repeat (first | refine walkL_seq ?_ | refine walkL_skip ?_ | refine walkL_block ?_ | (refine walkL_region fun K hK => ?_; simp (maxSteps := 4000000) only [go_sem]; refine hK _ ?_; clear hK K) | refine walkL_nil ?_ | refine walkL_ret ?_ | refine walkL_exit ?_ | refine blockA_here ?_ | refine blockA_other rfl ?_ | refine blockA_ret ?_ | refine blockA_normal ?_ | refine thenA_ret ?_ | refine thenA_exit ?_ | refine thenA_normal ?_)
        refine walkL_cond rfl (fun hb => ?_) (fun hb => ?_)
        · have hlt : i < F.length := by simpa using hb
          have hw : IntKind.i64.wrap ((i : Int) + 1) = ((i + 1 : Nat) : Int) := by rw [wr_small (by omega)]; simp
          obtain ⟨l, hx⟩ : ∃ l, F[i]? = some l := ⟨_, List.getElem?_eq_getElem hlt⟩
          have hlm := List.mem_of_getElem? hx
          have hls := hs.hours l hlm
          have g1 := scenRows_at hx
          cases q3 : ((l.length : Int) != (H0.length : Int))
          · have hll : l.length = H0.length := by
              have : ¬ (l.length : Int) ≠ (H0.length : Int) := by simpa using q3
              omega
            have hw1 : withinB (l.length : Int) 1 48 = true := by rw [hll]; exact q2
            repeat (first | refine walkL_true rfl ?_ | refine walkL_false rfl ?_ | refine walkL_seq ?_ | refine walkL_skip ?_ | refine walkL_block ?_ | (refine walkL_region fun K hK => ?_; simp (maxSteps := 4000000) only [go_sem, g1, q3]; (repeat (first | (refine ⟨_, .lent (hf := h71) (hd := rfl) (hr := rfl), ?_⟩; simp (maxSteps := 4000000) only [go_sem, g1, q3]) | (refine ⟨_, .given (hf := h71) (hd := rfl) (ha := rfl), ?_⟩; simp (maxSteps := 4000000) only [go_sem, g1, q3]))); refine hK _ ?_; clear hK K) | refine walkL_nil ?_ | refine walkL_ret ?_ | refine walkL_exit ?_ | refine blockA_here ?_ | refine blockA_other rfl ?_ | refine blockA_ret ?_ | refine blockA_normal ?_ | refine thenA_ret ?_ | refine thenA_exit ?_ | refine thenA_normal ?_)
            refine walkL_loopS (fun (j : Nat) => [(5, .d (.i j))]) (fun _ => []) (fun j => j ≤ l.length ∧ (l.take j).all hourB = true) (fun j => l.length - j) 0 ?_ ⟨Nat.zero_le _, rfl⟩ ?_
            · simp (maxSteps := 4000000) only [go_sem]
              refine weak_of [] ?_ ?_ rfl rfl <;> simp [lessT, lessM, lessB, AV.less]
            · intro j ⟨hj, hallj⟩
              simp (maxSteps := 4000000) only [go_sem]
              repeat (first | refine walkL_seq ?_ | refine walkL_skip ?_ | refine walkL_block ?_ | (refine walkL_region fun K hK => ?_; simp (maxSteps := 4000000) only [go_sem]; refine hK _ ?_; clear hK K) | refine walkL_nil ?_ | refine walkL_ret ?_ | refine walkL_exit ?_ | refine blockA_here ?_ | refine blockA_other rfl ?_ | refine blockA_ret ?_ | refine blockA_normal ?_ | refine thenA_ret ?_ | refine thenA_exit ?_ | refine thenA_normal ?_)
              refine walkL_cond rfl (fun hb => ?_) (fun hb => ?_)
              · have hltj : j < l.length := by simpa using hb
                have hwj : IntKind.i64.wrap ((j : Int) + 1) = ((j + 1 : Nat) : Int) := by rw [wr_small (by omega)]; simp
                obtain ⟨h, hxj⟩ : ∃ h, l[j]? = some h := ⟨_, List.getElem?_eq_getElem hltj⟩
                have gj := hourRows_at hxj
                have k1 := zf107 h.wind 0 200
                have k2 := zf107 h.rain 0 100
                have k3 := zf107 h.temp (-50) 50
                rw [Span.row] at k1 k2 k3
                obtain ⟨b1, e1⟩ : ∃ b, b = orderedB h.wind 0 200 := ⟨_, rfl⟩
                obtain ⟨b2, e2⟩ : ∃ b, b = orderedB h.rain 0 100 := ⟨_, rfl⟩
                obtain ⟨b3, e3⟩ : ∃ b, b = orderedB h.temp (-50) 50 := ⟨_, rfl⟩
                have hh : hourB h = (b1 && (b2 && b3)) := by rw [hourB, e1, e2, e3]
                rw [← e1] at k1
                rw [← e2] at k2
                rw [← e3] at k3
                have hbad : hourB h = false → foreF F = 50 := fun hf => hbadx l hlm (by simp [scenB, all_of_get hxj hf])
                cases b1
                · repeat (first | refine walkL_true rfl ?_ | refine walkL_false rfl ?_ | refine walkL_seq ?_ | refine walkL_skip ?_ | refine walkL_block ?_ | (refine walkL_region fun K hK => ?_; simp (maxSteps := 4000000) only [go_sem, gj, Hour.row]; (repeat (first | (refine ⟨_, .lent (hf := k1) (hd := rfl) (hr := rfl), ?_⟩; simp (maxSteps := 4000000) only [go_sem, gj, Hour.row]) | (refine ⟨_, .given (hf := k1) (hd := rfl) (ha := rfl), ?_⟩; simp (maxSteps := 4000000) only [go_sem, gj, Hour.row]))); refine hK _ ?_; clear hK K) | refine walkL_nil ?_ | refine walkL_ret ?_ | refine walkL_exit ?_ | refine blockA_here ?_ | refine blockA_other rfl ?_ | refine blockA_ret ?_ | refine blockA_normal ?_ | refine thenA_ret ?_ | refine thenA_exit ?_ | refine thenA_normal ?_)
                  simp (maxSteps := 4000000) only [go_sem, hbad (by rw [hh]; rfl)]
                · cases b2
                  · repeat (first | refine walkL_true rfl ?_ | refine walkL_false rfl ?_ | refine walkL_seq ?_ | refine walkL_skip ?_ | refine walkL_block ?_ | (refine walkL_region fun K hK => ?_; simp (maxSteps := 4000000) only [go_sem, gj, Hour.row]; (repeat (first | (refine ⟨_, .lent (hf := k1) (hd := rfl) (hr := rfl), ?_⟩; simp (maxSteps := 4000000) only [go_sem, gj, Hour.row]) | (refine ⟨_, .lent (hf := k2) (hd := rfl) (hr := rfl), ?_⟩; simp (maxSteps := 4000000) only [go_sem, gj, Hour.row]) | (refine ⟨_, .given (hf := k1) (hd := rfl) (ha := rfl), ?_⟩; simp (maxSteps := 4000000) only [go_sem, gj, Hour.row]) | (refine ⟨_, .given (hf := k2) (hd := rfl) (ha := rfl), ?_⟩; simp (maxSteps := 4000000) only [go_sem, gj, Hour.row]))); refine hK _ ?_; clear hK K) | refine walkL_nil ?_ | refine walkL_ret ?_ | refine walkL_exit ?_ | refine blockA_here ?_ | refine blockA_other rfl ?_ | refine blockA_ret ?_ | refine blockA_normal ?_ | refine thenA_ret ?_ | refine thenA_exit ?_ | refine thenA_normal ?_)
                    simp (maxSteps := 4000000) only [go_sem, hbad (by rw [hh]; rfl)]
                  · cases b3
                    · repeat (first | refine walkL_true rfl ?_ | refine walkL_false rfl ?_ | refine walkL_seq ?_ | refine walkL_skip ?_ | refine walkL_block ?_ | (refine walkL_region fun K hK => ?_; simp (maxSteps := 4000000) only [go_sem, gj, Hour.row]; (repeat (first | (refine ⟨_, .lent (hf := k1) (hd := rfl) (hr := rfl), ?_⟩; simp (maxSteps := 4000000) only [go_sem, gj, Hour.row]) | (refine ⟨_, .lent (hf := k2) (hd := rfl) (hr := rfl), ?_⟩; simp (maxSteps := 4000000) only [go_sem, gj, Hour.row]) | (refine ⟨_, .lent (hf := k3) (hd := rfl) (hr := rfl), ?_⟩; simp (maxSteps := 4000000) only [go_sem, gj, Hour.row]) | (refine ⟨_, .given (hf := k1) (hd := rfl) (ha := rfl), ?_⟩; simp (maxSteps := 4000000) only [go_sem, gj, Hour.row]) | (refine ⟨_, .given (hf := k2) (hd := rfl) (ha := rfl), ?_⟩; simp (maxSteps := 4000000) only [go_sem, gj, Hour.row]) | (refine ⟨_, .given (hf := k3) (hd := rfl) (ha := rfl), ?_⟩; simp (maxSteps := 4000000) only [go_sem, gj, Hour.row]))); refine hK _ ?_; clear hK K) | refine walkL_nil ?_ | refine walkL_ret ?_ | refine walkL_exit ?_ | refine blockA_here ?_ | refine blockA_other rfl ?_ | refine blockA_ret ?_ | refine blockA_normal ?_ | refine thenA_ret ?_ | refine thenA_exit ?_ | refine thenA_normal ?_)
                      simp (maxSteps := 4000000) only [go_sem, hbad (by rw [hh]; rfl)]
                    · repeat (first | refine walkL_true rfl ?_ | refine walkL_false rfl ?_ | refine walkL_seq ?_ | refine walkL_skip ?_ | refine walkL_block ?_ | (refine walkL_region fun K hK => ?_; simp (maxSteps := 4000000) only [go_sem, gj, Hour.row, hwj]; (repeat (first | (refine ⟨_, .lent (hf := k1) (hd := rfl) (hr := rfl), ?_⟩; simp (maxSteps := 4000000) only [go_sem, gj, Hour.row, hwj]) | (refine ⟨_, .lent (hf := k2) (hd := rfl) (hr := rfl), ?_⟩; simp (maxSteps := 4000000) only [go_sem, gj, Hour.row, hwj]) | (refine ⟨_, .lent (hf := k3) (hd := rfl) (hr := rfl), ?_⟩; simp (maxSteps := 4000000) only [go_sem, gj, Hour.row, hwj]) | (refine ⟨_, .given (hf := k1) (hd := rfl) (ha := rfl), ?_⟩; simp (maxSteps := 4000000) only [go_sem, gj, Hour.row, hwj]) | (refine ⟨_, .given (hf := k2) (hd := rfl) (ha := rfl), ?_⟩; simp (maxSteps := 4000000) only [go_sem, gj, Hour.row, hwj]) | (refine ⟨_, .given (hf := k3) (hd := rfl) (ha := rfl), ?_⟩; simp (maxSteps := 4000000) only [go_sem, gj, Hour.row, hwj]))); refine hK _ ?_; clear hK K) | refine walkL_nil ?_ | refine walkL_ret ?_ | refine walkL_exit ?_ | refine blockA_here ?_ | refine blockA_other rfl ?_ | refine blockA_ret ?_ | refine blockA_normal ?_ | refine thenA_ret ?_ | refine thenA_exit ?_ | refine thenA_normal ?_)
                      refine ⟨rfl, j + 1, ?_, ⟨hltj, all_take_succ hxj hallj (by rw [hh]; rfl)⟩, by omega⟩
                      refine weak_of [] ?_ ?_ rfl rfl <;> simp [lessT, lessM, lessB, AV.less]
              · have he : j = l.length := by (have : ¬ j < l.length := by simpa using hb); omega
                subst he
                rw [List.take_length] at hallj
                repeat (first | refine walkL_seq ?_ | refine walkL_skip ?_ | refine walkL_block ?_ | (refine walkL_region fun K hK => ?_; simp (maxSteps := 4000000) only [go_sem, hw]; refine hK _ ?_; clear hK K) | refine walkL_nil ?_ | refine walkL_ret ?_ | refine walkL_exit ?_ | refine blockA_here ?_ | refine blockA_other rfl ?_ | refine blockA_ret ?_ | refine blockA_normal ?_ | refine thenA_ret ?_ | refine thenA_exit ?_ | refine thenA_normal ?_)
                refine ⟨rfl, i + 1, ?_, ⟨hlt, all_take_succ hx hall (by rw [scenB, hw1, hallj]; simp [hll])⟩, by omega⟩
                refine weak_of [] ?_ ?_ rfl rfl <;> simp [lessT, lessM, lessB, AV.less]
          · have hne : ¬ (l.length : Int) = (H0.length : Int) := by simpa using q3
            have hf : scenB H0 l = false := by
              have : ((l.length : Int) == (H0.length : Int)) = false := by simpa using hne
              unfold scenB
              rw [this]
              simp
            repeat (first | refine walkL_true rfl ?_ | refine walkL_false rfl ?_ | refine walkL_seq ?_ | refine walkL_skip ?_ | refine walkL_block ?_ | (refine walkL_region fun K hK => ?_; simp (maxSteps := 4000000) only [go_sem, g1, q3]; (repeat (first | (refine ⟨_, .lent (hf := h71) (hd := rfl) (hr := rfl), ?_⟩; simp (maxSteps := 4000000) only [go_sem, g1, q3]) | (refine ⟨_, .given (hf := h71) (hd := rfl) (ha := rfl), ?_⟩; simp (maxSteps := 4000000) only [go_sem, g1, q3]))); refine hK _ ?_; clear hK K) | refine walkL_nil ?_ | refine walkL_ret ?_ | refine walkL_exit ?_ | refine blockA_here ?_ | refine blockA_other rfl ?_ | refine blockA_ret ?_ | refine blockA_normal ?_ | refine thenA_ret ?_ | refine thenA_exit ?_ | refine thenA_normal ?_)
            simp (maxSteps := 4000000) only [go_sem, hbadx l hlm hf]
        · have he : i = F.length := by (have : ¬ i < F.length := by simpa using hb); omega
          subst he
          rw [List.take_length] at hall
          repeat (first | refine walkL_seq ?_ | refine walkL_skip ?_ | refine walkL_block ?_ | (refine walkL_region fun K hK => ?_; simp (maxSteps := 4000000) only [go_sem]; refine hK _ ?_; clear hK K) | refine walkL_nil ?_ | refine walkL_ret ?_ | refine walkL_exit ?_ | refine blockA_here ?_ | refine blockA_other rfl ?_ | refine blockA_ret ?_ | refine blockA_normal ?_ | refine thenA_ret ?_ | refine thenA_exit ?_ | refine thenA_normal ?_)
          simp (maxSteps := 4000000) only [go_sem, foreF, badF, q1, ← hH0, hall]
theorem point_ok (s : Sky) : hourB (pointH s) = (withinB s.wind 0 200 && (withinB s.rain 0 100 && withinB s.temp (-50) 50)) := by
  have e : ∀ n lo hi : Int, orderedB ⟨n, n⟩ lo hi = withinB n lo hi := fun n lo hi => by
    unfold orderedB withinB
    dsimp only
    rw [decide_eq_true (Int.le_refl n), Bool.true_and]
  rw [hourB, pointH, e, e, e]
theorem zf61 (F : List (List Hour)) (h0 : List Hour) (x : Int) (h : F[0]? = some h0) (hl : h0.length < 2 ^ 30) : Fn Tryz.prog 61 [.agg [.sl (scenRows F)], .i x] (.bool (withinB x 0 ((h0.length : Int) - 1))) := by
  have h71 := zf48 F h0 h
  have h97 := zf101 x 0 ((h0.length : Int) - 1)
  have hw : IntKind.i64.wrap ((h0.length : Int) - 1) = (h0.length : Int) - 1 := wr_small (by omega)
  refine fn_walk 10 Tryz.call61 Tryz.func61 rfl (by decide) fun J => ?_
  simp (maxSteps := 4000000) only [go_sem, St.start, Tryz.ntmps61, Tryz.results61]
  repeat (first | refine walkL_seq ?_ | refine walkL_skip ?_ | refine walkL_block ?_ | (refine walkL_region fun K hK => ?_; simp (maxSteps := 4000000) only [go_sem, hw]; (repeat (first | (refine ⟨_, .lent (hf := h71) (hd := rfl) (hr := rfl), ?_⟩; simp (maxSteps := 4000000) only [go_sem, hw]) | (refine ⟨_, .lent (hf := h97) (hd := rfl) (hr := rfl), ?_⟩; simp (maxSteps := 4000000) only [go_sem, hw]) | (refine ⟨_, .given (hf := h71) (hd := rfl) (ha := rfl), ?_⟩; simp (maxSteps := 4000000) only [go_sem, hw]) | (refine ⟨_, .given (hf := h97) (hd := rfl) (ha := rfl), ?_⟩; simp (maxSteps := 4000000) only [go_sem, hw]))); refine hK _ ?_; clear hK K) | refine walkL_nil ?_ | refine walkL_ret ?_ | refine walkL_exit ?_ | refine blockA_here ?_ | refine blockA_other rfl ?_ | refine blockA_ret ?_ | refine blockA_normal ?_ | refine thenA_ret ?_ | refine thenA_exit ?_ | refine thenA_normal ?_)
  simp (maxSteps := 4000000) only [go_sem]
def seenF (F : List (List Hour)) (seen : List Sight) : Int := if badF F then 50 else if sightsB (hd0 F).length seen then 0 else 51
theorem zf105 (F : List (List Hour)) (seen : List Sight) (hs : ForeSmall F) (hsl : seen.length < 2 ^ 30) : Fn Tryz.prog 105 [.agg [.sl (scenRows F)], .sl (sightRows seen)] (.i (seenF F seen)) := by
  have h86 := zf81 F hs
  cases hb : badF F
  · have hg := fore_iff.1 hb
    have hF := hg.scen
    have hH := hg.hours
    have e86 : foreF F = 0 := by simp [foreF, hb]
    rw [e86] at h86
    have h0 := headD_get (F := F) (by omega)
    obtain ⟨H0, hH0⟩ : ∃ H0, H0 = hd0 F := ⟨_, rfl⟩
    rw [← hH0] at h0 hH
    have e0 : seenF F seen = if sightsB (H0.length : Int) seen then 0 else 51 := by simp [seenF, hb, ← hH0]
    rw [e0]
    cases hlen : decide ((seen.length : Int) > 20)
    · have hlen' := of_decide_eq_false hlen
      refine fn_walk 67 Tryz.call105 Tryz.func105 rfl (by decide) fun J => ?_
      simp (maxSteps := 4000000) only [go_sem, St.start, Tryz.ntmps105, Tryz.results105]
      repeat (first | refine walkL_true rfl ?_ | refine walkL_false rfl ?_ | refine walkL_seq ?_ | refine walkL_skip ?_ | refine walkL_block ?_ | (refine walkL_region fun K hK => ?_; simp (maxSteps := 4000000) only [go_sem, hlen]; (repeat (first | (refine ⟨_, .lent (hf := h86) (hd := rfl) (hr := rfl), ?_⟩; simp (maxSteps := 4000000) only [go_sem, hlen]) | (refine ⟨_, .given (hf := h86) (hd := rfl) (ha := rfl), ?_⟩; simp (maxSteps := 4000000) only [go_sem, hlen]))); refine hK _ ?_; clear hK K) | refine walkL_nil ?_ | refine walkL_ret ?_ | refine walkL_exit ?_ | refine blockA_here ?_ | refine blockA_other rfl ?_ | refine blockA_ret ?_ | refine blockA_normal ?_ | refine thenA_ret ?_ | refine thenA_exit ?_ | refine thenA_normal ?_)
      refine walkL_loopS (fun (i : Nat) => [(5, .d (.i i))]) (fun _ => []) (fun i => i ≤ seen.length ∧ (seen.take i).all (sightOk H0.length) = true ∧ ((seen.take i).map (·.hour)).Nodup) (fun i => seen.length - i) 0 ?_ ⟨Nat.zero_le _, rfl, by simp⟩ ?_
      · simp (maxSteps := 4000000) only [go_sem]
        refine weak_of [] ?_ ?_ rfl rfl <;> simp [lessT, lessM, lessB, AV.less]
      · intro i ⟨hi, hall, hnd⟩
        simp (maxSteps := 4000000) only [go_sem]
        repeat (first | refine walkL_seq ?_ | refine walkL_skip ?_ | refine walkL_block ?_ | (refine walkL_region fun K hK => ?_; simp (maxSteps := 4000000) only [go_sem]; refine hK _ ?_; clear hK K) | refine walkL_nil ?_ | refine walkL_ret ?_ | refine walkL_exit ?_ | refine blockA_here ?_ | refine blockA_other rfl ?_ | refine blockA_ret ?_ | refine blockA_normal ?_ | refine thenA_ret ?_ | refine thenA_exit ?_ | refine thenA_normal ?_)
        refine walkL_cond rfl (fun hb => ?_) (fun hb => ?_)
        · have hlt : i < seen.length := by simpa using hb
          have hw : IntKind.i64.wrap ((i : Int) + 1) = ((i + 1 : Nat) : Int) := by rw [wr_small (by omega)]; simp
          obtain ⟨s, hx⟩ : ∃ s, seen[i]? = some s := ⟨_, List.getElem?_eq_getElem hlt⟩
          have g1 := sightRows_at hx
          have htk : seen.take (i + 1) = seen.take i ++ [s] := by rw [List.take_add_one, hx]; rfl
          have k0 := zf61 F H0 s.hour h0 (by omega)
          have k1 := zf101 s.sky.wind 0 200
          have k2 := zf101 s.sky.rain 0 100
          have k3 := zf101 s.sky.temp (-50) 50
          obtain ⟨b0, e0⟩ : ∃ b, b = withinB s.hour 0 ((H0.length : Int) - 1) := ⟨_, rfl⟩
          obtain ⟨b1, e1⟩ : ∃ b, b = withinB s.sky.wind 0 200 := ⟨_, rfl⟩
          obtain ⟨b2, e2⟩ : ∃ b, b = withinB s.sky.rain 0 100 := ⟨_, rfl⟩
          obtain ⟨b3, e3⟩ : ∃ b, b = withinB s.sky.temp (-50) 50 := ⟨_, rfl⟩
          have hh : sightOk H0.length s = (b0 && (b1 && (b2 && b3))) := by rw [sightOk, point_ok, e0, e1, e2, e3]
          rw [← e0] at k0
          rw [← e1] at k1
          rw [← e2] at k2
          rw [← e3] at k3
          have hbad : sightOk H0.length s = false → sightsB (H0.length : Int) seen = false := fun hf => by rw [sightsB, all_of_get hx hf]; rfl
          cases b0
          · repeat (first | refine walkL_true rfl ?_ | refine walkL_false rfl ?_ | refine walkL_seq ?_ | refine walkL_skip ?_ | refine walkL_block ?_ | (refine walkL_region fun K hK => ?_; simp (maxSteps := 4000000) only [go_sem, g1, Sight.row]; (repeat (first | (refine ⟨_, .lent (hf := k0) (hd := rfl) (hr := rfl), ?_⟩; simp (maxSteps := 4000000) only [go_sem, g1, Sight.row]) | (refine ⟨_, .given (hf := k0) (hd := rfl) (ha := rfl), ?_⟩; simp (maxSteps := 4000000) only [go_sem, g1, Sight.row]))); refine hK _ ?_; clear hK K) | (refine walkL_drawn (by kernel_rfl) (by kernel_rfl) fun K hK => ?_; simp (maxSteps := 4000000) only [go_sem, g1, Sight.row]; (repeat (first | (refine ⟨_, .fn (hf := k0) (hd := rfl) (hr := .inl rfl), ?_⟩; simp (maxSteps := 4000000) only [go_sem, g1, Sight.row]))); refine ⟨by kernel_rfl, hK _ ?_⟩; clear hK K) | refine walkL_nil ?_ | refine walkL_ret ?_ | refine walkL_exit ?_ | refine blockA_here ?_ | refine blockA_other rfl ?_ | refine blockA_ret ?_ | refine blockA_normal ?_ | refine thenA_ret ?_ | refine thenA_exit ?_ | refine thenA_normal ?_)
            simp (maxSteps := 4000000) only [go_sem, hbad (by rw [hh]; rfl)]
          cases b1
          · repeat (first | refine walkL_true rfl ?_ | refine walkL_false rfl ?_ | refine walkL_seq ?_ | refine walkL_skip ?_ | refine walkL_block ?_ | (refine walkL_region fun K hK => ?_; simp (maxSteps := 4000000) only [go_sem, g1, Sight.row]; (repeat (first | (refine ⟨_, .lent (hf := k0) (hd := rfl) (hr := rfl), ?_⟩; simp (maxSteps := 4000000) only [go_sem, g1, Sight.row]) | (refine ⟨_, .lent (hf := k1) (hd := rfl) (hr := rfl), ?_⟩; simp (maxSteps := 4000000) only [go_sem, g1, Sight.row]) | (refine ⟨_, .given (hf := k0) (hd := rfl) (ha := rfl), ?_⟩; simp (maxSteps := 4000000) only [go_sem, g1, Sight.row]) | (refine ⟨_, .given (hf := k1) (hd := rfl) (ha := rfl), ?_⟩; simp (maxSteps := 4000000) only [go_sem, g1, Sight.row]))); refine hK _ ?_; clear hK K) | (refine walkL_drawn (by kernel_rfl) (by kernel_rfl) fun K hK => ?_; simp (maxSteps := 4000000) only [go_sem, g1, Sight.row]; (repeat (first | (refine ⟨_, .fn (hf := k0) (hd := rfl) (hr := .inl rfl), ?_⟩; simp (maxSteps := 4000000) only [go_sem, g1, Sight.row]) | (refine ⟨_, .fn (hf := k1) (hd := rfl) (hr := .inl rfl), ?_⟩; simp (maxSteps := 4000000) only [go_sem, g1, Sight.row]))); refine ⟨by kernel_rfl, hK _ ?_⟩; clear hK K) | refine walkL_nil ?_ | refine walkL_ret ?_ | refine walkL_exit ?_ | refine blockA_here ?_ | refine blockA_other rfl ?_ | refine blockA_ret ?_ | refine blockA_normal ?_ | refine thenA_ret ?_ | refine thenA_exit ?_ | refine thenA_normal ?_)
            simp (maxSteps := 4000000) only [go_sem, hbad (by rw [hh]; rfl)]
          cases b2
          · repeat (first | refine walkL_true rfl ?_ | refine walkL_false rfl ?_ | refine walkL_seq ?_ | refine walkL_skip ?_ | refine walkL_block ?_ | (refine walkL_region fun K hK => ?_; simp (maxSteps := 4000000) only [go_sem, g1, Sight.row]; (repeat (first | (refine ⟨_, .lent (hf := k0) (hd := rfl) (hr := rfl), ?_⟩; simp (maxSteps := 4000000) only [go_sem, g1, Sight.row]) | (refine ⟨_, .lent (hf := k1) (hd := rfl) (hr := rfl), ?_⟩; simp (maxSteps := 4000000) only [go_sem, g1, Sight.row]) | (refine ⟨_, .lent (hf := k2) (hd := rfl) (hr := rfl), ?_⟩; simp (maxSteps := 4000000) only [go_sem, g1, Sight.row]) | (refine ⟨_, .given (hf := k0) (hd := rfl) (ha := rfl), ?_⟩; simp (maxSteps := 4000000) only [go_sem, g1, Sight.row]) | (refine ⟨_, .given (hf := k1) (hd := rfl) (ha := rfl), ?_⟩; simp (maxSteps := 4000000) only [go_sem, g1, Sight.row]) | (refine ⟨_, .given (hf := k2) (hd := rfl) (ha := rfl), ?_⟩; simp (maxSteps := 4000000) only [go_sem, g1, Sight.row]))); refine hK _ ?_; clear hK K) | (refine walkL_drawn (by kernel_rfl) (by kernel_rfl) fun K hK => ?_; simp (maxSteps := 4000000) only [go_sem, g1, Sight.row]; (repeat (first | (refine ⟨_, .fn (hf := k0) (hd := rfl) (hr := .inl rfl), ?_⟩; simp (maxSteps := 4000000) only [go_sem, g1, Sight.row]) | (refine ⟨_, .fn (hf := k1) (hd := rfl) (hr := .inl rfl), ?_⟩; simp (maxSteps := 4000000) only [go_sem, g1, Sight.row]) | (refine ⟨_, .fn (hf := k2) (hd := rfl) (hr := .inl rfl), ?_⟩; simp (maxSteps := 4000000) only [go_sem, g1, Sight.row]))); refine ⟨by kernel_rfl, hK _ ?_⟩; clear hK K) | refine walkL_nil ?_ | refine walkL_ret ?_ | refine walkL_exit ?_ | refine blockA_here ?_ | refine blockA_other rfl ?_ | refine blockA_ret ?_ | refine blockA_normal ?_ | refine thenA_ret ?_ | refine thenA_exit ?_ | refine thenA_normal ?_)
            simp (maxSteps := 4000000) only [go_sem, hbad (by rw [hh]; rfl)]
          cases b3
          · repeat (first | refine walkL_true rfl ?_ | refine walkL_false rfl ?_ | refine walkL_seq ?_ | refine walkL_skip ?_ | refine walkL_block ?_ | (refine walkL_region fun K hK => ?_; simp (maxSteps := 4000000) only [go_sem, g1, Sight.row]; (repeat (first | (refine ⟨_, .lent (hf := k0) (hd := rfl) (hr := rfl), ?_⟩; simp (maxSteps := 4000000) only [go_sem, g1, Sight.row]) | (refine ⟨_, .lent (hf := k1) (hd := rfl) (hr := rfl), ?_⟩; simp (maxSteps := 4000000) only [go_sem, g1, Sight.row]) | (refine ⟨_, .lent (hf := k2) (hd := rfl) (hr := rfl), ?_⟩; simp (maxSteps := 4000000) only [go_sem, g1, Sight.row]) | (refine ⟨_, .lent (hf := k3) (hd := rfl) (hr := rfl), ?_⟩; simp (maxSteps := 4000000) only [go_sem, g1, Sight.row]) | (refine ⟨_, .given (hf := k0) (hd := rfl) (ha := rfl), ?_⟩; simp (maxSteps := 4000000) only [go_sem, g1, Sight.row]) | (refine ⟨_, .given (hf := k1) (hd := rfl) (ha := rfl), ?_⟩; simp (maxSteps := 4000000) only [go_sem, g1, Sight.row]) | (refine ⟨_, .given (hf := k2) (hd := rfl) (ha := rfl), ?_⟩; simp (maxSteps := 4000000) only [go_sem, g1, Sight.row]) | (refine ⟨_, .given (hf := k3) (hd := rfl) (ha := rfl), ?_⟩; simp (maxSteps := 4000000) only [go_sem, g1, Sight.row]))); refine hK _ ?_; clear hK K) | (refine walkL_drawn (by kernel_rfl) (by kernel_rfl) fun K hK => ?_; simp (maxSteps := 4000000) only [go_sem, g1, Sight.row]; (repeat (first | (refine ⟨_, .fn (hf := k0) (hd := rfl) (hr := .inl rfl), ?_⟩; simp (maxSteps := 4000000) only [go_sem, g1, Sight.row]) | (refine ⟨_, .fn (hf := k1) (hd := rfl) (hr := .inl rfl), ?_⟩; simp (maxSteps := 4000000) only [go_sem, g1, Sight.row]) | (refine ⟨_, .fn (hf := k2) (hd := rfl) (hr := .inl rfl), ?_⟩; simp (maxSteps := 4000000) only [go_sem, g1, Sight.row]) | (refine ⟨_, .fn (hf := k3) (hd := rfl) (hr := .inl rfl), ?_⟩; simp (maxSteps := 4000000) only [go_sem, g1, Sight.row]))); refine ⟨by kernel_rfl, hK _ ?_⟩; clear hK K) | refine walkL_nil ?_ | refine walkL_ret ?_ | refine walkL_exit ?_ | refine blockA_here ?_ | refine blockA_other rfl ?_ | refine blockA_ret ?_ | refine blockA_normal ?_ | refine thenA_ret ?_ | refine thenA_exit ?_ | refine thenA_normal ?_)
            simp (maxSteps := 4000000) only [go_sem, hbad (by rw [hh]; rfl)]
          repeat (first | refine walkL_true rfl ?_ | refine walkL_false rfl ?_ | refine walkL_seq ?_ | refine walkL_skip ?_ | refine walkL_block ?_ | (refine walkL_region fun K hK => ?_; simp (maxSteps := 4000000) only [go_sem, g1, Sight.row]; (repeat (first | (refine ⟨_, .lent (hf := k0) (hd := rfl) (hr := rfl), ?_⟩; simp (maxSteps := 4000000) only [go_sem, g1, Sight.row]) | (refine ⟨_, .lent (hf := k1) (hd := rfl) (hr := rfl), ?_⟩; simp (maxSteps := 4000000) only [go_sem, g1, Sight.row]) | (refine ⟨_, .lent (hf := k2) (hd := rfl) (hr := rfl), ?_⟩; simp (maxSteps := 4000000) only [go_sem, g1, Sight.row]) | (refine ⟨_, .lent (hf := k3) (hd := rfl) (hr := rfl), ?_⟩; simp (maxSteps := 4000000) only [go_sem, g1, Sight.row]) | (refine ⟨_, .given (hf := k0) (hd := rfl) (ha := rfl), ?_⟩; simp (maxSteps := 4000000) only [go_sem, g1, Sight.row]) | (refine ⟨_, .given (hf := k1) (hd := rfl) (ha := rfl), ?_⟩; simp (maxSteps := 4000000) only [go_sem, g1, Sight.row]) | (refine ⟨_, .given (hf := k2) (hd := rfl) (ha := rfl), ?_⟩; simp (maxSteps := 4000000) only [go_sem, g1, Sight.row]) | (refine ⟨_, .given (hf := k3) (hd := rfl) (ha := rfl), ?_⟩; simp (maxSteps := 4000000) only [go_sem, g1, Sight.row]))); refine hK _ ?_; clear hK K) | (refine walkL_drawn (by kernel_rfl) (by kernel_rfl) fun K hK => ?_; simp (maxSteps := 4000000) only [go_sem, g1, Sight.row]; (repeat (first | (refine ⟨_, .fn (hf := k0) (hd := rfl) (hr := .inl rfl), ?_⟩; simp (maxSteps := 4000000) only [go_sem, g1, Sight.row]) | (refine ⟨_, .fn (hf := k1) (hd := rfl) (hr := .inl rfl), ?_⟩; simp (maxSteps := 4000000) only [go_sem, g1, Sight.row]) | (refine ⟨_, .fn (hf := k2) (hd := rfl) (hr := .inl rfl), ?_⟩; simp (maxSteps := 4000000) only [go_sem, g1, Sight.row]) | (refine ⟨_, .fn (hf := k3) (hd := rfl) (hr := .inl rfl), ?_⟩; simp (maxSteps := 4000000) only [go_sem, g1, Sight.row]))); refine ⟨by kernel_rfl, hK _ ?_⟩; clear hK K) | refine walkL_nil ?_ | refine walkL_ret ?_ | refine walkL_exit ?_ | refine blockA_here ?_ | refine blockA_other rfl ?_ | refine blockA_ret ?_ | refine blockA_normal ?_ | refine thenA_ret ?_ | refine thenA_exit ?_ | refine thenA_normal ?_)
          refine walkL_loopS (fun (j : Nat) => [(7, .d (.i j))]) (fun _ => []) (fun j => j ≤ i ∧ ∀ x ∈ seen.take j, x.hour ≠ s.hour) (fun j => i - j) 0 ?_ ⟨Nat.zero_le _, by simp⟩ ?_
          · simp (maxSteps := 4000000) only [go_sem]
            refine weak_of [] ?_ ?_ rfl rfl <;> simp [lessT, lessM, lessB, AV.less]
          · intro j ⟨hj, hno⟩
            simp (maxSteps := 4000000) only [go_sem]
            repeat (first | refine walkL_seq ?_ | refine walkL_skip ?_ | refine walkL_block ?_ | (refine walkL_region fun K hK => ?_; simp (maxSteps := 4000000) only [go_sem]; refine hK _ ?_; clear hK K) | refine walkL_nil ?_ | refine walkL_ret ?_ | refine walkL_exit ?_ | refine blockA_here ?_ | refine blockA_other rfl ?_ | refine blockA_ret ?_ | refine blockA_normal ?_ | refine thenA_ret ?_ | refine thenA_exit ?_ | refine thenA_normal ?_)
            refine walkL_cond rfl (fun hb => ?_) (fun hb => ?_)
            · have hltj : j < i := by simpa using hb
              have hwj : IntKind.i64.wrap ((j : Int) + 1) = ((j + 1 : Nat) : Int) := by rw [wr_small (by omega)]; simp
              obtain ⟨y, hy⟩ : ∃ y, seen[j]? = some y := ⟨_, List.getElem?_eq_getElem (by omega)⟩
              have gj := sightRows_at hy
              cases hq : (y.hour == s.hour)
              · have hne : y.hour ≠ s.hour := by simpa using hq
                repeat (first | refine walkL_true rfl ?_ | refine walkL_false rfl ?_ | refine walkL_seq ?_ | refine walkL_skip ?_ | refine walkL_block ?_ | (refine walkL_region fun K hK => ?_; simp (maxSteps := 4000000) only [go_sem, gj, g1, Sight.row, hq, hwj]; refine hK _ ?_; clear hK K) | (refine walkL_drawn (by kernel_rfl) (by kernel_rfl) fun K hK => ?_; simp (maxSteps := 4000000) only [go_sem, gj, g1, Sight.row, hq, hwj]; refine ⟨by kernel_rfl, hK _ ?_⟩; clear hK K) | refine walkL_nil ?_ | refine walkL_ret ?_ | refine walkL_exit ?_ | refine blockA_here ?_ | refine blockA_other rfl ?_ | refine blockA_ret ?_ | refine blockA_normal ?_ | refine thenA_ret ?_ | refine thenA_exit ?_ | refine thenA_normal ?_)
                refine ⟨rfl, j + 1, ?_, ⟨hltj, fun x hx2 => ?_⟩, by omega⟩
                · refine weak_of [] ?_ ?_ rfl rfl <;> simp [lessT, lessM, lessB, AV.less]
                · rw [List.take_add_one, hy, List.mem_append] at hx2
                  rcases hx2 with hx2 | hx2
                  · exact hno x hx2
                  · have : x = y := by simpa using hx2
                    rw [this]; exact hne
              · have heq : y.hour = s.hour := by simpa using hq
                have hF : sightsB (H0.length : Int) seen = false := by
                  have : ¬ (seen.map (·.hour)).Nodup := fun hn => by
                    have h3 : (((seen.take (i + 1)).map (·.hour))).Nodup := (List.Sublist.map _ (List.take_sublist _ _)).nodup hn
                    rw [htk, List.map_append, List.nodup_append] at h3
                    refine h3.2.2 y.hour (List.mem_map.2 ⟨y, ?_, rfl⟩) s.hour (by simp) heq
                    exact List.mem_of_getElem? (i := j) (by rw [List.getElem?_take, if_pos hltj]; exact hy)
                  simp [sightsB, this]
                repeat (first | refine walkL_true rfl ?_ | refine walkL_false rfl ?_ | refine walkL_seq ?_ | refine walkL_skip ?_ | refine walkL_block ?_ | (refine walkL_region fun K hK => ?_; simp (maxSteps := 4000000) only [go_sem, gj, g1, Sight.row, hq]; refine hK _ ?_; clear hK K) | (refine walkL_drawn (by kernel_rfl) (by kernel_rfl) fun K hK => ?_; simp (maxSteps := 4000000) only [go_sem, gj, g1, Sight.row, hq]; refine ⟨by kernel_rfl, hK _ ?_⟩; clear hK K) | refine walkL_nil ?_ | refine walkL_ret ?_ | refine walkL_exit ?_ | refine blockA_here ?_ | refine blockA_other rfl ?_ | refine blockA_ret ?_ | refine blockA_normal ?_ | refine thenA_ret ?_ | refine thenA_exit ?_ | refine thenA_normal ?_)
                simp (maxSteps := 4000000) only [go_sem, hF]
            · have he : j = i := by (have : ¬ j < i := by simpa using hb); omega
              subst he
              repeat (first | refine walkL_seq ?_ | refine walkL_skip ?_ | refine walkL_block ?_ | (refine walkL_region fun K hK => ?_; simp (maxSteps := 4000000) only [go_sem, hw]; refine hK _ ?_; clear hK K) | refine walkL_nil ?_ | refine walkL_ret ?_ | refine walkL_exit ?_ | refine blockA_here ?_ | refine blockA_other rfl ?_ | refine blockA_ret ?_ | refine blockA_normal ?_ | refine thenA_ret ?_ | refine thenA_exit ?_ | refine thenA_normal ?_)
              refine ⟨rfl, j + 1, ?_, ⟨hlt, all_take_succ hx hall (by rw [hh]; rfl), ?_⟩, by omega⟩
              · refine weak_of [] ?_ ?_ rfl rfl <;> simp [lessT, lessM, lessB, AV.less]
              · rw [htk, List.map_append, List.nodup_append]
                refine ⟨hnd, by simp, fun a ha b hb e => ?_⟩
                obtain ⟨z, hz, rfl⟩ := List.mem_map.1 ha
                have : b = s.hour := by simpa using hb
                exact hno z hz (by rw [e, this])
        · have he : i = seen.length := by (have : ¬ i < seen.length := by simpa using hb); omega
          subst he
          rw [List.take_length] at hall hnd
          have hF : sightsB (H0.length : Int) seen = true := by
            simp only [sightsB, hall, Bool.true_and, Bool.and_eq_true, decide_eq_true_eq]
            exact ⟨hnd, by omega⟩
          repeat (first | refine walkL_seq ?_ | refine walkL_skip ?_ | refine walkL_block ?_ | (refine walkL_region fun K hK => ?_; simp (maxSteps := 4000000) only [go_sem]; refine hK _ ?_; clear hK K) | refine walkL_nil ?_ | refine walkL_ret ?_ | refine walkL_exit ?_ | refine blockA_here ?_ | refine blockA_other rfl ?_ | refine blockA_ret ?_ | refine blockA_normal ?_ | refine thenA_ret ?_ | refine thenA_exit ?_ | refine thenA_normal ?_)
          simp (maxSteps := 4000000) only [go_sem, hF, if_true]
    · have hlen' := of_decide_eq_true hlen
      have hF : sightsB (H0.length : Int) seen = false := by
        have : decide ((seen.length : Int) ≤ 20) = false := by simp; omega
        simp only [sightsB, this, Bool.and_false]
      rw [hF, if_neg (by decide)]
      refine fn_walk 67 Tryz.call105 Tryz.func105 rfl (by decide) fun J => ?_
      simp (maxSteps := 4000000) only [go_sem, St.start, Tryz.ntmps105, Tryz.results105]
      repeat (first | refine walkL_true rfl ?_ | refine walkL_false rfl ?_ | refine walkL_seq ?_ | refine walkL_skip ?_ | refine walkL_block ?_ | (refine walkL_region fun K hK => ?_; simp (maxSteps := 4000000) only [go_sem, hlen]; (repeat (first | (refine ⟨_, .lent (hf := h86) (hd := rfl) (hr := rfl), ?_⟩; simp (maxSteps := 4000000) only [go_sem, hlen]) | (refine ⟨_, .given (hf := h86) (hd := rfl) (ha := rfl), ?_⟩; simp (maxSteps := 4000000) only [go_sem, hlen]))); refine hK _ ?_; clear hK K) | refine walkL_nil ?_ | refine walkL_ret ?_ | refine walkL_exit ?_ | refine blockA_here ?_ | refine blockA_other rfl ?_ | refine blockA_ret ?_ | refine blockA_normal ?_ | refine thenA_ret ?_ | refine thenA_exit ?_ | refine thenA_normal ?_)
      simp (maxSteps := 4000000) only [go_sem]
  · have e86 : foreF F = 50 := by simp [foreF, hb]
    have e0 : seenF F seen = 50 := by simp [seenF, hb]
    rw [e86] at h86
    rw [e0]
    refine fn_walk 67 Tryz.call105 Tryz.func105 rfl (by decide) fun J => ?_
    simp (maxSteps := 4000000) only [go_sem, St.start, Tryz.ntmps105, Tryz.results105]
    repeat (first | refine walkL_true rfl ?_ | refine walkL_false rfl ?_ | refine walkL_seq ?_ | refine walkL_skip ?_ | refine walkL_block ?_ | (refine walkL_region fun K hK => ?_; simp (maxSteps := 4000000) only [go_sem]; (repeat (first | (refine ⟨_, .lent (hf := h86) (hd := rfl) (hr := rfl), ?_⟩; simp (maxSteps := 4000000) only [go_sem]) | (refine ⟨_, .given (hf := h86) (hd := rfl) (ha := rfl), ?_⟩; simp (maxSteps := 4000000) only [go_sem]))); refine hK _ ?_; clear hK K) | refine walkL_nil ?_ | refine walkL_ret ?_ | refine walkL_exit ?_ | refine blockA_here ?_ | refine blockA_other rfl ?_ | refine blockA_ret ?_ | refine blockA_normal ?_ | refine thenA_ret ?_ | refine thenA_exit ?_ | refine thenA_normal ?_)
    simp (maxSteps := 4000000) only [go_sem]
end Go.Ab
namespace Go.Ab
open Go.RowKit Go.Proofs
set_option maxHeartbeats 8000000
set_option maxRecDepth 20000
attribute [local irreducible] WalkL Walk
theorem zf155 (s : Sky) (h : Hour) : Fn Tryz.prog 155 [.agg s.row, .agg h.row] (.bool (insideB s h)) := by
  have h1 := zf194 s.wind h.wind
  have h2 := zf194 s.rain h.rain
  have h3 := zf194 s.temp h.temp
  rw [Span.row] at h1 h2 h3
  obtain ⟨b1, e1⟩ : ∃ b, b = withinB s.wind h.wind.lo h.wind.hi := ⟨_, rfl⟩
  obtain ⟨b2, e2⟩ : ∃ b, b = withinB s.rain h.rain.lo h.rain.hi := ⟨_, rfl⟩
  obtain ⟨b3, e3⟩ : ∃ b, b = withinB s.temp h.temp.lo h.temp.hi := ⟨_, rfl⟩
  rw [insideB, ← e1, ← e2, ← e3]
  rw [← e1] at h1
  rw [← e2] at h2
  rw [← e3] at h3
  refine fn_walk 24 Tryz.call155 Tryz.func155 rfl (by decide) fun J => ?_
  simp (maxSteps := 4000000) only [go_sem, St.start, Tryz.ntmps155, Tryz.results155, Hour.row, Sky.row]
  cases b1 <;> cases b2
  all_goals
    repeat (first | refine walkL_seq ?_ | refine walkL_skip ?_ | refine walkL_block ?_ | (refine walkL_region fun K hK => ?_; simp (maxSteps := 4000000) only [go_sem]; (repeat (first | (refine ⟨_, .lent (hf := h1) (hd := rfl) (hr := rfl), ?_⟩; simp (maxSteps := 4000000) only [go_sem]) | (refine ⟨_, .lent (hf := h2) (hd := rfl) (hr := rfl), ?_⟩; simp (maxSteps := 4000000) only [go_sem]) | (refine ⟨_, .lent (hf := h3) (hd := rfl) (hr := rfl), ?_⟩; simp (maxSteps := 4000000) only [go_sem]) | (refine ⟨_, .given (hf := h1) (hd := rfl) (ha := rfl), ?_⟩; simp (maxSteps := 4000000) only [go_sem]) | (refine ⟨_, .given (hf := h2) (hd := rfl) (ha := rfl), ?_⟩; simp (maxSteps := 4000000) only [go_sem]) | (refine ⟨_, .given (hf := h3) (hd := rfl) (ha := rfl), ?_⟩; simp (maxSteps := 4000000) only [go_sem]))); refine hK _ ?_; clear hK K) | refine walkL_nil ?_ | refine walkL_ret ?_ | refine walkL_exit ?_ | refine blockA_here ?_ | refine blockA_other rfl ?_ | refine blockA_ret ?_ | refine blockA_normal ?_ | refine thenA_ret ?_ | refine thenA_exit ?_ | refine thenA_normal ?_)
    simp (maxSteps := 4000000) only [go_sem]
theorem zf106 (F : List (List Hour)) (seen : List Sight) (hg : ForeGood F) (hsi : sightsB (hd0 F).length seen = true) : Fn Tryz.prog 106 [.agg [.sl (scenRows F)], .sl (sightRows seen)] (.sl (intRows (numsOf (possL F seen)))) := by
  obtain ⟨s1, s2, s3⟩ := sights_spec hsi
  have hF := hg.scen
  have hH := hg.hours
  refine fn_walk 50 Tryz.call106 Tryz.func106 rfl (by decide) fun J => ?_
  simp (maxSteps := 4000000) only [go_sem, St.start, Tryz.ntmps106, Tryz.results106]
  repeat (first | refine walkL_seq ?_ | refine walkL_skip ?_ | refine walkL_block ?_ | (refine walkL_region fun K hK => ?_; simp (maxSteps := 4000000) only [go_sem]; refine hK _ ?_; clear hK K) | refine walkL_nil ?_ | refine walkL_ret ?_ | refine walkL_exit ?_ | refine blockA_here ?_ | refine blockA_other rfl ?_ | refine blockA_ret ?_ | refine blockA_normal ?_ | refine thenA_ret ?_ | refine thenA_exit ?_ | refine thenA_normal ?_)
  refine walkL_loopS (fun (i : Nat) => [(6, .d (.i i)), (5, .own 48)]) (fun i => [(48, some (.arr 3 1 (intRows (numsOf (possFrom seen (F.take i) 0)))))]) (fun i => i ≤ F.length) (fun i => F.length - i) 0 ?_ (Nat.zero_le _) ?_
  · simp (maxSteps := 4000000) only [go_sem]
    refine weak_of [48] ?_ ?_ rfl rfl <;> simp [lessT, lessM, lessB, AV.less]
    all_goals first | done | rfl
  · intro i hi
    simp (maxSteps := 4000000) only [go_sem]
    repeat (first | refine walkL_seq ?_ | refine walkL_skip ?_ | refine walkL_block ?_ | (refine walkL_region fun K hK => ?_; simp (maxSteps := 4000000) only [go_sem]; refine hK _ ?_; clear hK K) | refine walkL_nil ?_ | refine walkL_ret ?_ | refine walkL_exit ?_ | refine blockA_here ?_ | refine blockA_other rfl ?_ | refine blockA_ret ?_ | refine blockA_normal ?_ | refine thenA_ret ?_ | refine thenA_exit ?_ | refine thenA_normal ?_)
    refine walkL_cond rfl (fun hb => ?_) (fun hb => ?_)
    · have hlt : i < F.length := by simpa using hb
      have hw : IntKind.i64.wrap ((i : Int) + 1) = ((i + 1 : Nat) : Int) := by rw [wr_small (by omega)]; simp
      obtain ⟨l, hl⟩ : ∃ l, F[i]? = some l := ⟨_, List.getElem?_eq_getElem hlt⟩
      have hll := hg.len l (List.mem_of_getElem? hl)
      have g1 := scenRows_at hl
      have htk : F.take (i + 1) = F.take i ++ [l] := by rw [List.take_add_one, hl]; rfl
      have hp := possFrom_push seen l (F.take i) 0
      have htl : (F.take i).length = i := by simp; omega
      rw [← htk, htl, Nat.zero_add] at hp
      have hpl := possFrom_len seen (F.take i) 0
      rw [htl] at hpl
      have hn1 : (numsOf (possFrom seen (F.take i) 0)).length + 1 ≤ 549755813888 := by simp [numsOf]; omega
      repeat (first | refine walkL_seq ?_ | refine walkL_skip ?_ | refine walkL_block ?_ | (refine walkL_region fun K hK => ?_; simp (maxSteps := 4000000) only [go_sem]; refine hK _ ?_; clear hK K) | refine walkL_nil ?_ | refine walkL_ret ?_ | refine walkL_exit ?_ | refine blockA_here ?_ | refine blockA_other rfl ?_ | refine blockA_ret ?_ | refine blockA_normal ?_ | refine thenA_ret ?_ | refine thenA_exit ?_ | refine thenA_normal ?_)
      refine walkL_loopS (fun (k : Nat) => [(8, .d (.i k)), (7, .d (.bool (agreesB (seen.take k) l)))]) (fun _ => []) (fun k => k ≤ seen.length) (fun k => seen.length - k) 0 ?_ (Nat.zero_le _) ?_
      · simp (maxSteps := 4000000) only [go_sem]
        refine weak_of [] ?_ ?_ rfl rfl <;> simp [lessT, lessM, lessB, AV.less]
        all_goals first | done | rfl
      · intro k hk
        simp (maxSteps := 4000000) only [go_sem]
        repeat (first | refine walkL_seq ?_ | refine walkL_skip ?_ | refine walkL_block ?_ | (refine walkL_region fun K hK => ?_; simp (maxSteps := 4000000) only [go_sem]; refine hK _ ?_; clear hK K) | refine walkL_nil ?_ | refine walkL_ret ?_ | refine walkL_exit ?_ | refine blockA_here ?_ | refine blockA_other rfl ?_ | refine blockA_ret ?_ | refine blockA_normal ?_ | refine thenA_ret ?_ | refine thenA_exit ?_ | refine thenA_normal ?_)
        refine walkL_cond rfl (fun hb => ?_) (fun hb => ?_)
        · have hltk : k < seen.length := by simpa using hb
          have hwk : IntKind.i64.wrap ((k : Int) + 1) = ((k + 1 : Nat) : Int) := by rw [wr_small (by omega)]; simp
          obtain ⟨s, hsk⟩ : ∃ s, seen[k]? = some s := ⟨_, List.getElem?_eq_getElem hltk⟩
          have gs := sightRows_at hsk
          have hr := s1 s (List.mem_of_getElem? hsk)
          have gr := hourRows_at (hourAt_get (l := l) (i := s.hour) ⟨hr.1, by omega⟩)
          have h90 := zf155 s.sky (hourAt l s.hour)
          rw [Sky.row, Hour.row] at h90
          have hnx : agreesB (seen.take (k + 1)) l = (agreesB (seen.take k) l && insideB s.sky (hourAt l s.hour)) := by
            rw [List.take_add_one, hsk]; simp [agreesB]
          cases hq : agreesB (seen.take k) l
          · rw [hq, Bool.false_and] at hnx
            repeat (first | refine walkL_true rfl ?_ | refine walkL_false rfl ?_ | refine walkL_seq ?_ | refine walkL_skip ?_ | refine walkL_block ?_ | (refine walkL_region fun K hK => ?_; simp (maxSteps := 4000000) only [go_sem, hwk]; refine hK _ ?_; clear hK K) | (refine walkL_drawn (by kernel_rfl) (by kernel_rfl) fun K hK => ?_; simp (maxSteps := 4000000) only [go_sem, hwk]; refine ⟨by kernel_rfl, hK _ ?_⟩; clear hK K) | refine walkL_nil ?_ | refine walkL_ret ?_ | refine walkL_exit ?_ | refine blockA_here ?_ | refine blockA_other rfl ?_ | refine blockA_ret ?_ | refine blockA_normal ?_ | refine thenA_ret ?_ | refine thenA_exit ?_ | refine thenA_normal ?_)
            refine ⟨rfl, k + 1, ?_, hltk, by omega⟩
            rw [hnx]
            refine weak_of [] ?_ ?_ rfl rfl <;> simp [lessT, lessM, lessB, AV.less]
          · rw [hq, Bool.true_and] at hnx
            repeat (first | refine walkL_true rfl ?_ | refine walkL_false rfl ?_ | refine walkL_seq ?_ | refine walkL_skip ?_ | refine walkL_block ?_ | (refine walkL_region fun K hK => ?_; simp (maxSteps := 4000000) only [go_sem, gs, g1, gr, hr.1, Sight.row, Hour.row, hwk]; (repeat (first | (refine ⟨_, .lent (hf := h90) (hd := rfl) (hr := rfl), ?_⟩; simp (maxSteps := 4000000) only [go_sem, gs, g1, gr, hr.1, Sight.row, Hour.row, hwk]) | (refine ⟨_, .given (hf := h90) (hd := rfl) (ha := rfl), ?_⟩; simp (maxSteps := 4000000) only [go_sem, gs, g1, gr, hr.1, Sight.row, Hour.row, hwk]))); refine hK _ ?_; clear hK K) | (refine walkL_drawn (by kernel_rfl) (by kernel_rfl) fun K hK => ?_; simp (maxSteps := 4000000) only [go_sem, gs, g1, gr, hr.1, Sight.row, Hour.row, hwk]; (repeat (first | (refine ⟨_, .fn (hf := h90) (hd := rfl) (hr := .inl rfl), ?_⟩; simp (maxSteps := 4000000) only [go_sem, gs, g1, gr, hr.1, Sight.row, Hour.row, hwk]))); refine ⟨by kernel_rfl, hK _ ?_⟩; clear hK K) | refine walkL_nil ?_ | refine walkL_ret ?_ | refine walkL_exit ?_ | refine blockA_here ?_ | refine blockA_other rfl ?_ | refine blockA_ret ?_ | refine blockA_normal ?_ | refine thenA_ret ?_ | refine thenA_exit ?_ | refine thenA_normal ?_)
            refine ⟨rfl, k + 1, ?_, hltk, by omega⟩
            rw [hnx]
            refine weak_of [] ?_ ?_ rfl rfl <;> simp [lessT, lessM, lessB, AV.less]
        · have he : k = seen.length := by (have : ¬ k < seen.length := by simpa using hb); omega
          subst he
          rw [List.take_length]
          cases hag : agreesB seen l
          · rw [hag, if_neg (by decide), List.append_nil] at hp
            repeat (first | refine walkL_true rfl ?_ | refine walkL_false rfl ?_ | refine walkL_seq ?_ | refine walkL_skip ?_ | refine walkL_block ?_ | (refine walkL_region fun K hK => ?_; simp (maxSteps := 4000000) only [go_sem, hw]; refine hK _ ?_; clear hK K) | refine walkL_nil ?_ | refine walkL_ret ?_ | refine walkL_exit ?_ | refine blockA_here ?_ | refine blockA_other rfl ?_ | refine blockA_ret ?_ | refine blockA_normal ?_ | refine thenA_ret ?_ | refine thenA_exit ?_ | refine thenA_normal ?_)
            refine ⟨rfl, i + 1, ?_, hlt, by omega⟩
            rw [hp]
            refine weak_of [] ?_ ?_ rfl rfl <;> simp [lessT, lessM, lessB, AV.less]
          · rw [hag, if_pos rfl] at hp
            repeat (first | refine walkL_true rfl ?_ | refine walkL_false rfl ?_ | refine walkL_seq ?_ | refine walkL_skip ?_ | refine walkL_block ?_ | (refine walkL_region fun K hK => ?_; simp (maxSteps := 4000000) only [go_sem, hn1, hw]; refine hK _ ?_; clear hK K) | refine walkL_nil ?_ | refine walkL_ret ?_ | refine walkL_exit ?_ | refine blockA_here ?_ | refine blockA_other rfl ?_ | refine blockA_ret ?_ | refine blockA_normal ?_ | refine thenA_ret ?_ | refine thenA_exit ?_ | refine thenA_normal ?_)
            refine ⟨rfl, i + 1, ?_, hlt, by omega⟩
            rw [hp, nums_push]
            refine weak_of [] ?_ ?_ rfl rfl <;> simp [lessT, lessM, lessB, AV.less]
            all_goals first | done | rfl
    · have he : i = F.length := by (have : ¬ i < F.length := by simpa using hb); omega
      subst he
      rw [List.take_length]
      repeat (first | refine walkL_seq ?_ | refine walkL_skip ?_ | refine walkL_block ?_ | (refine walkL_region fun K hK => ?_; simp (maxSteps := 4000000) only [go_sem]; refine hK _ ?_; clear hK K) | refine walkL_nil ?_ | refine walkL_ret ?_ | refine walkL_exit ?_ | refine blockA_here ?_ | refine blockA_other rfl ?_ | refine blockA_ret ?_ | refine blockA_normal ?_ | refine thenA_ret ?_ | refine thenA_exit ?_ | refine thenA_normal ?_)
      simp (maxSteps := 4000000) only [go_sem]
      rfl
theorem zf68 (F : List (List Hour)) (seen : List Sight) (hs : ForeSmall F) (hsl : seen.length < 2 ^ 30) :
    Fn Tryz.prog 68 [.agg [.sl (scenRows F)], .sl (sightRows seen)] (.tup [.sl (intRows (if lookF F seen 0 true = 0 then numsOf (possL F seen) else [])), .i (lookF F seen 0 true)]) := by
  have h68 := zf105 F seen hs hsl
  cases hb : badF F
  · have hg := fore_iff.1 hb
    cases hsi : sightsB ((hd0 F).length : Int) seen
    · have e1 : seenF F seen = 51 := by simp [seenF, hb, hsi]
      have e2 : lookF F seen 0 true = 51 := by simp [lookF, hb, hsi]
      rw [e1] at h68
      rw [e2, if_neg (by decide)]
      refine fn_walk 21 Tryz.call68 Tryz.func68 rfl (by decide) fun J => ?_
      simp (maxSteps := 4000000) only [go_sem, St.start, Tryz.ntmps68, Tryz.results68]
      repeat (first | refine walkL_true rfl ?_ | refine walkL_false rfl ?_ | refine walkL_seq ?_ | refine walkL_skip ?_ | refine walkL_block ?_ | (refine walkL_region fun K hK => ?_; simp (maxSteps := 4000000) only [go_sem]; (repeat (first | (refine ⟨_, .lent (hf := h68) (hd := rfl) (hr := rfl), ?_⟩; simp (maxSteps := 4000000) only [go_sem]) | (refine ⟨_, .given (hf := h68) (hd := rfl) (ha := rfl), ?_⟩; simp (maxSteps := 4000000) only [go_sem]))); refine hK _ ?_; clear hK K) | refine walkL_nil ?_ | refine walkL_ret ?_ | refine walkL_exit ?_ | refine blockA_here ?_ | refine blockA_other rfl ?_ | refine blockA_ret ?_ | refine blockA_normal ?_ | refine thenA_ret ?_ | refine thenA_exit ?_ | refine thenA_normal ?_)
      simp (maxSteps := 4000000) only [go_sem]
      try rfl
    · have e1 : seenF F seen = 0 := by simp [seenF, hb, hsi]
      rw [e1] at h68
      have h69 := zf106 F seen hg hsi
      cases hp : possL F seen with
      | nil =>
        have e2 : lookF F seen 0 true = 3 := by simp [lookF, hb, hsi, hp]
        rw [hp] at h69
        rw [e2, if_neg (by decide)]
        have e3 : intRows (numsOf []) = [] := rfl
        rw [e3] at h69
        refine fn_walk 21 Tryz.call68 Tryz.func68 rfl (by decide) fun J => ?_
        simp (maxSteps := 4000000) only [go_sem, St.start, Tryz.ntmps68, Tryz.results68]
        repeat (first | refine walkL_true rfl ?_ | refine walkL_false rfl ?_ | refine walkL_seq ?_ | refine walkL_skip ?_ | refine walkL_block ?_ | (refine walkL_region fun K hK => ?_; simp (maxSteps := 4000000) only [go_sem]; (repeat (first | (refine ⟨_, .lent (hf := h68) (hd := rfl) (hr := rfl), ?_⟩; simp (maxSteps := 4000000) only [go_sem]) | (refine ⟨_, .lent (hf := h69) (hd := rfl) (hr := rfl), ?_⟩; simp (maxSteps := 4000000) only [go_sem]) | (refine ⟨_, .given (hf := h68) (hd := rfl) (ha := rfl), ?_⟩; simp (maxSteps := 4000000) only [go_sem]) | (refine ⟨_, .given (hf := h69) (hd := rfl) (ha := rfl), ?_⟩; simp (maxSteps := 4000000) only [go_sem]))); refine hK _ ?_; clear hK K) | refine walkL_nil ?_ | refine walkL_ret ?_ | refine walkL_exit ?_ | refine blockA_here ?_ | refine blockA_other rfl ?_ | refine blockA_ret ?_ | refine blockA_normal ?_ | refine thenA_ret ?_ | refine thenA_exit ?_ | refine thenA_normal ?_)
        simp (maxSteps := 4000000) only [go_sem]
        try rfl
      | cons y ys =>
        have e2 : lookF F seen 0 true = 0 := by simp [lookF, hb, hsi, hp]
        rw [hp] at h69
        rw [e2, if_pos rfl]
        have hz : ((((y :: ys).length : Nat) : Int) == 0) = false := by simp; omega
        refine fn_walk 21 Tryz.call68 Tryz.func68 rfl (by decide) fun J => ?_
        simp (maxSteps := 4000000) only [go_sem, St.start, Tryz.ntmps68, Tryz.results68]
        repeat (first | refine walkL_true rfl ?_ | refine walkL_false rfl ?_ | refine walkL_seq ?_ | refine walkL_skip ?_ | refine walkL_block ?_ | (refine walkL_region fun K hK => ?_; simp (maxSteps := 4000000) only [go_sem, hz, nums_len]; (repeat (first | (refine ⟨_, .lent (hf := h68) (hd := rfl) (hr := rfl), ?_⟩; simp (maxSteps := 4000000) only [go_sem, hz, nums_len]) | (refine ⟨_, .lent (hf := h69) (hd := rfl) (hr := rfl), ?_⟩; simp (maxSteps := 4000000) only [go_sem, hz, nums_len]) | (refine ⟨_, .given (hf := h68) (hd := rfl) (ha := rfl), ?_⟩; simp (maxSteps := 4000000) only [go_sem, hz, nums_len]) | (refine ⟨_, .given (hf := h69) (hd := rfl) (ha := rfl), ?_⟩; simp (maxSteps := 4000000) only [go_sem, hz, nums_len]))); refine hK _ ?_; clear hK K) | refine walkL_nil ?_ | refine walkL_ret ?_ | refine walkL_exit ?_ | refine blockA_here ?_ | refine blockA_other rfl ?_ | refine blockA_ret ?_ | refine blockA_normal ?_ | refine thenA_ret ?_ | refine thenA_exit ?_ | refine thenA_normal ?_)
        simp (maxSteps := 4000000) only [go_sem]
  · have e1 : seenF F seen = 50 := by simp [seenF, hb]
    have e2 : lookF F seen 0 true = 50 := by simp [lookF, hb]
    rw [e1] at h68
    rw [e2, if_neg (by decide)]
    refine fn_walk 21 Tryz.call68 Tryz.func68 rfl (by decide) fun J => ?_
    simp (maxSteps := 4000000) only [go_sem, St.start, Tryz.ntmps68, Tryz.results68]
    repeat (first | refine walkL_true rfl ?_ | refine walkL_false rfl ?_ | refine walkL_seq ?_ | refine walkL_skip ?_ | refine walkL_block ?_ | (refine walkL_region fun K hK => ?_; simp (maxSteps := 4000000) only [go_sem]; (repeat (first | (refine ⟨_, .lent (hf := h68) (hd := rfl) (hr := rfl), ?_⟩; simp (maxSteps := 4000000) only [go_sem]) | (refine ⟨_, .given (hf := h68) (hd := rfl) (ha := rfl), ?_⟩; simp (maxSteps := 4000000) only [go_sem]))); refine hK _ ?_; clear hK K) | refine walkL_nil ?_ | refine walkL_ret ?_ | refine walkL_exit ?_ | refine blockA_here ?_ | refine blockA_other rfl ?_ | refine blockA_ret ?_ | refine blockA_normal ?_ | refine thenA_ret ?_ | refine thenA_exit ?_ | refine thenA_normal ?_)
    simp (maxSteps := 4000000) only [go_sem]
    try rfl
theorem zf75 (n lo hi : Int) : Fn Tryz.prog 75 [.i n, .i lo, .i hi] (.bool (withinB n lo hi)) := by
  refine fn_walk 15 Tryz.call75 Tryz.func75 rfl (by decide) fun J => ?_
  simp (maxSteps := 4000000) only [go_sem, St.start, Tryz.ntmps75, Tryz.results75]
  by_cases h : lo ≤ n
  · repeat (first | refine walkL_seq ?_ | refine walkL_skip ?_ | refine walkL_block ?_ | (refine walkL_region fun K hK => ?_; simp (maxSteps := 4000000) only [go_sem, h, ge_iff_le]; refine hK _ ?_; clear hK K) | refine walkL_nil ?_ | refine walkL_ret ?_ | refine walkL_exit ?_ | refine blockA_here ?_ | refine blockA_other rfl ?_ | refine blockA_ret ?_ | refine blockA_normal ?_ | refine thenA_ret ?_ | refine thenA_exit ?_ | refine thenA_normal ?_)
    simp (maxSteps := 4000000) only [go_sem, withinB, h]
  · repeat (first | refine walkL_seq ?_ | refine walkL_skip ?_ | refine walkL_block ?_ | (refine walkL_region fun K hK => ?_; simp (maxSteps := 4000000) only [go_sem, h, ge_iff_le]; refine hK _ ?_; clear hK K) | refine walkL_nil ?_ | refine walkL_ret ?_ | refine walkL_exit ?_ | refine blockA_here ?_ | refine blockA_other rfl ?_ | refine blockA_ret ?_ | refine blockA_normal ?_ | refine thenA_ret ?_ | refine thenA_exit ?_ | refine thenA_normal ?_)
    simp (maxSteps := 4000000) only [go_sem, withinB, h]
theorem any_false_get {α : Type} {l : List α} {q : α → Bool} (h : l.any q = false) : ∀ x ∈ l, q x = false := by
  intro x hx
  cases hq : q x with
  | false => rfl
  | true => rw [List.any_eq_true.2 ⟨x, hx, hq⟩] at h; cases h
theorem zf74 (l : List Int) (H : Int) (hl : l.length < 2 ^ 30) : Fn Tryz.prog 74 [.sl (intRows l), .i H] (.bool (powerB H l)) := by
  refine fn_walk 22 Tryz.call74 Tryz.func74 rfl (by decide) fun J => ?_
  simp (maxSteps := 4000000) only [go_sem, St.start, Tryz.ntmps74, Tryz.results74]
  repeat (first | refine walkL_seq ?_ | refine walkL_skip ?_ | refine walkL_block ?_ | (refine walkL_region fun K hK => ?_; simp (maxSteps := 4000000) only [go_sem]; refine hK _ ?_; clear hK K) | refine walkL_nil ?_ | refine walkL_ret ?_ | refine walkL_exit ?_ | refine blockA_here ?_ | refine blockA_other rfl ?_ | refine blockA_ret ?_ | refine blockA_normal ?_ | refine thenA_ret ?_ | refine thenA_exit ?_ | refine thenA_normal ?_)
  refine walkL_loopS (fun (i : Nat) => [(5, .d (.i i))]) (fun _ => []) (fun i => i ≤ l.length ∧ (l.take i).any (fun n => !withinB n 0 10000) = false) (fun i => l.length - i) 0 ?_ ⟨Nat.zero_le _, rfl⟩ ?_
  · simp (maxSteps := 4000000) only [go_sem]
    refine weak_of [] ?_ ?_ rfl rfl <;> simp [lessT, lessM, lessB, AV.less]
  · intro i ⟨hi, hall⟩
    simp (maxSteps := 4000000) only [go_sem]
    repeat (first | refine walkL_seq ?_ | refine walkL_skip ?_ | refine walkL_block ?_ | (refine walkL_region fun K hK => ?_; simp (maxSteps := 4000000) only [go_sem]; refine hK _ ?_; clear hK K) | refine walkL_nil ?_ | refine walkL_ret ?_ | refine walkL_exit ?_ | refine blockA_here ?_ | refine blockA_other rfl ?_ | refine blockA_ret ?_ | refine blockA_normal ?_ | refine thenA_ret ?_ | refine thenA_exit ?_ | refine thenA_normal ?_)
    refine walkL_cond rfl (fun hb => ?_) (fun hb => ?_)
    · have hlt : i < l.length := by simpa using hb
      have hw : IntKind.i64.wrap ((i : Int) + 1) = ((i + 1 : Nat) : Int) := by rw [wr_small (by omega)]; simp
      obtain ⟨x, hx⟩ : ∃ x, l[i]? = some x := ⟨_, List.getElem?_eq_getElem hlt⟩
      have g1 := intRows_at hx
      have h50 := zf75 x 0 10000
      cases hq : withinB x 0 10000
      · rw [hq] at h50
        have e : powerB H l = false := by
          have : (l.any fun n => !withinB n 0 10000) = true := any_of_get hx (by rw [hq]; rfl)
          simp [powerB, this]
        repeat (first | refine walkL_true rfl ?_ | refine walkL_false rfl ?_ | refine walkL_seq ?_ | refine walkL_skip ?_ | refine walkL_block ?_ | (refine walkL_region fun K hK => ?_; simp (maxSteps := 4000000) only [go_sem, g1]; (repeat (first | (refine ⟨_, .lent (hf := h50) (hd := rfl) (hr := rfl), ?_⟩; simp (maxSteps := 4000000) only [go_sem, g1]) | (refine ⟨_, .given (hf := h50) (hd := rfl) (ha := rfl), ?_⟩; simp (maxSteps := 4000000) only [go_sem, g1]))); refine hK _ ?_; clear hK K) | refine walkL_nil ?_ | refine walkL_ret ?_ | refine walkL_exit ?_ | refine blockA_here ?_ | refine blockA_other rfl ?_ | refine blockA_ret ?_ | refine blockA_normal ?_ | refine thenA_ret ?_ | refine thenA_exit ?_ | refine thenA_normal ?_)
        simp (maxSteps := 4000000) only [go_sem, e]
      · rw [hq] at h50
        repeat (first | refine walkL_true rfl ?_ | refine walkL_false rfl ?_ | refine walkL_seq ?_ | refine walkL_skip ?_ | refine walkL_block ?_ | (refine walkL_region fun K hK => ?_; simp (maxSteps := 4000000) only [go_sem, g1, hw]; (repeat (first | (refine ⟨_, .lent (hf := h50) (hd := rfl) (hr := rfl), ?_⟩; simp (maxSteps := 4000000) only [go_sem, g1, hw]) | (refine ⟨_, .given (hf := h50) (hd := rfl) (ha := rfl), ?_⟩; simp (maxSteps := 4000000) only [go_sem, g1, hw]))); refine hK _ ?_; clear hK K) | refine walkL_nil ?_ | refine walkL_ret ?_ | refine walkL_exit ?_ | refine blockA_here ?_ | refine blockA_other rfl ?_ | refine blockA_ret ?_ | refine blockA_normal ?_ | refine thenA_ret ?_ | refine thenA_exit ?_ | refine thenA_normal ?_)
        refine ⟨rfl, i + 1, ?_, ⟨hlt, any_take_succ hx hall (by rw [hq]; rfl)⟩, by omega⟩
        refine weak_of [] ?_ ?_ rfl rfl <;> simp [lessT, lessM, lessB, AV.less]
    · have he : i = l.length := by (have : ¬ i < l.length := by simpa using hb); omega
      subst he
      rw [List.take_length] at hall
      repeat (first | refine walkL_seq ?_ | refine walkL_skip ?_ | refine walkL_block ?_ | (refine walkL_region fun K hK => ?_; simp (maxSteps := 4000000) only [go_sem]; refine hK _ ?_; clear hK K) | refine walkL_nil ?_ | refine walkL_ret ?_ | refine walkL_exit ?_ | refine blockA_here ?_ | refine blockA_other rfl ?_ | refine blockA_ret ?_ | refine blockA_normal ?_ | refine thenA_ret ?_ | refine thenA_exit ?_ | refine thenA_normal ?_)
      simp (maxSteps := 4000000) only [go_sem, powerB, hall, Bool.not_false, Bool.and_true]
def plantE (p : Plant) : Int := if lookF p.scen p.seen 0 true = 0 then (if plantBad p (hoursOf p) then 100 else 0) else lookF p.scen p.seen 0 true
theorem openE_nil (p : Plant) : openE p [] = plantE p := by simp [openE, plantE]
theorem zf30 (p : Plant) (hs : PlantSmall p) : Fn Tryz.prog 30 [.agg p.cells] (.i (plantE p)) := by
  have h33 := zf68 p.scen p.seen hs.fore hs.seen
  by_cases hlk : lookF p.scen p.seen 0 true = 0
  · rw [if_pos hlk, hlk] at h33
    obtain ⟨hg, hsi, hpn⟩ := look_zero hlk
    have hF := hg.scen
    have hH := hg.hours
    have h0 : p.scen[0]? = some (hd0 p.scen) := headD_get (by omega)
    have h71 := zf48 p.scen _ h0
    have e : plantE p = if plantBad p (hoursOf p) then 100 else 0 := by rw [plantE, if_pos hlk]
    rw [e]
    have hhr : ((hd0 p.scen).length : Int) = hoursOf p := rfl
    rw [hhr] at h71
    obtain ⟨H, hHH⟩ : ∃ H, H = hoursOf p := ⟨_, rfl⟩
    rw [← hHH] at h71 ⊢
    have h72a := zf74 p.sun H hs.sun
    have h72b := zf74 p.needs H hs.needs
    have k1 := zf75 p.gain 0 100
    have k2 := zf75 p.start 0 p.stop
    have k4 := zf75 p.capacity 0 100000
    have k5 := zf75 p.charge 0 p.capacity
    have k6 := zf75 p.reserve 0 p.capacity
    have k7 := zf75 p.gas 0 10000
    have k8 := zf75 p.rate 0 10
    have k9 := zf75 p.units 0 200
    refine fn_walk 92 Tryz.call30 Tryz.func30 rfl (by decide) fun J => ?_
    simp (maxSteps := 4000000) only [go_sem, St.start, Tryz.ntmps30, Tryz.results30, Plant.cells]
    repeat (first | refine walkL_true rfl ?_ | refine walkL_false rfl ?_ | refine walkL_seq ?_ | refine walkL_skip ?_ | refine walkL_block ?_ | (refine walkL_region fun K hK => ?_; simp (maxSteps := 4000000) only [go_sem]; (repeat (first | (refine ⟨_, .lent (hf := h33) (hd := rfl) (hr := rfl), ?_⟩; simp (maxSteps := 4000000) only [go_sem]) | (refine ⟨_, .lent (hf := h71) (hd := rfl) (hr := rfl), ?_⟩; simp (maxSteps := 4000000) only [go_sem]) | (refine ⟨_, .given (hf := h33) (hd := rfl) (ha := rfl), ?_⟩; simp (maxSteps := 4000000) only [go_sem]) | (refine ⟨_, .given (hf := h71) (hd := rfl) (ha := rfl), ?_⟩; simp (maxSteps := 4000000) only [go_sem]))); refine hK _ ?_; clear hK K) | refine walkL_nil ?_ | refine walkL_ret ?_ | refine walkL_exit ?_ | refine blockA_here ?_ | refine blockA_other rfl ?_ | refine blockA_ret ?_ | refine blockA_normal ?_ | refine thenA_ret ?_ | refine thenA_exit ?_ | refine thenA_normal ?_)
    cases q1 : powerB H p.sun
    · rw [q1] at h72a
      repeat (first | refine walkL_true rfl ?_ | refine walkL_false rfl ?_ | refine walkL_seq ?_ | refine walkL_skip ?_ | refine walkL_block ?_ | (refine walkL_region fun K hK => ?_; simp (maxSteps := 4000000) only [go_sem]; (repeat (first | (refine ⟨_, .lent (hf := h72a) (hd := rfl) (hr := rfl), ?_⟩; simp (maxSteps := 4000000) only [go_sem]) | (refine ⟨_, .given (hf := h72a) (hd := rfl) (ha := rfl), ?_⟩; simp (maxSteps := 4000000) only [go_sem]))); refine hK _ ?_; clear hK K) | refine walkL_nil ?_ | refine walkL_ret ?_ | refine walkL_exit ?_ | refine blockA_here ?_ | refine blockA_other rfl ?_ | refine blockA_ret ?_ | refine blockA_normal ?_ | refine thenA_ret ?_ | refine thenA_exit ?_ | refine thenA_normal ?_)
      simp (maxSteps := 4000000) only [go_sem, plantBad, q1, Bool.not_false, Bool.true_or, if_true]
    rw [q1] at h72a
    cases q2 : powerB H p.needs
    · rw [q2] at h72b
      repeat (first | refine walkL_true rfl ?_ | refine walkL_false rfl ?_ | refine walkL_seq ?_ | refine walkL_skip ?_ | refine walkL_block ?_ | (refine walkL_region fun K hK => ?_; simp (maxSteps := 4000000) only [go_sem]; (repeat (first | (refine ⟨_, .lent (hf := h72a) (hd := rfl) (hr := rfl), ?_⟩; simp (maxSteps := 4000000) only [go_sem]) | (refine ⟨_, .lent (hf := h72b) (hd := rfl) (hr := rfl), ?_⟩; simp (maxSteps := 4000000) only [go_sem]) | (refine ⟨_, .given (hf := h72a) (hd := rfl) (ha := rfl), ?_⟩; simp (maxSteps := 4000000) only [go_sem]) | (refine ⟨_, .given (hf := h72b) (hd := rfl) (ha := rfl), ?_⟩; simp (maxSteps := 4000000) only [go_sem]))); refine hK _ ?_; clear hK K) | refine walkL_nil ?_ | refine walkL_ret ?_ | refine walkL_exit ?_ | refine blockA_here ?_ | refine blockA_other rfl ?_ | refine blockA_ret ?_ | refine blockA_normal ?_ | refine thenA_ret ?_ | refine thenA_exit ?_ | refine thenA_normal ?_)
      simp (maxSteps := 4000000) only [go_sem, plantBad, q1, q2, Bool.not_false, Bool.not_true, Bool.false_or, Bool.true_or, if_true]
    rw [q2] at h72b
    cases q3 : withinB p.gain 0 100
    · rw [q3] at k1
      repeat (first | refine walkL_true rfl ?_ | refine walkL_false rfl ?_ | refine walkL_seq ?_ | refine walkL_skip ?_ | refine walkL_block ?_ | (refine walkL_region fun K hK => ?_; simp (maxSteps := 4000000) only [go_sem]; (repeat (first | (refine ⟨_, .lent (hf := h72a) (hd := rfl) (hr := rfl), ?_⟩; simp (maxSteps := 4000000) only [go_sem]) | (refine ⟨_, .lent (hf := h72b) (hd := rfl) (hr := rfl), ?_⟩; simp (maxSteps := 4000000) only [go_sem]) | (refine ⟨_, .lent (hf := k1) (hd := rfl) (hr := rfl), ?_⟩; simp (maxSteps := 4000000) only [go_sem]) | (refine ⟨_, .given (hf := h72a) (hd := rfl) (ha := rfl), ?_⟩; simp (maxSteps := 4000000) only [go_sem]) | (refine ⟨_, .given (hf := h72b) (hd := rfl) (ha := rfl), ?_⟩; simp (maxSteps := 4000000) only [go_sem]) | (refine ⟨_, .given (hf := k1) (hd := rfl) (ha := rfl), ?_⟩; simp (maxSteps := 4000000) only [go_sem]))); refine hK _ ?_; clear hK K) | refine walkL_nil ?_ | refine walkL_ret ?_ | refine walkL_exit ?_ | refine blockA_here ?_ | refine blockA_other rfl ?_ | refine blockA_ret ?_ | refine blockA_normal ?_ | refine thenA_ret ?_ | refine thenA_exit ?_ | refine thenA_normal ?_)
      simp (maxSteps := 4000000) only [go_sem, plantBad, q1, q2, q3, Bool.not_false, Bool.not_true, Bool.false_or, Bool.true_or, if_true]
    rw [q3] at k1
    cases q4 : withinB p.start 0 p.stop
    · rw [q4] at k2
      repeat (first | refine walkL_true rfl ?_ | refine walkL_false rfl ?_ | refine walkL_seq ?_ | refine walkL_skip ?_ | refine walkL_block ?_ | (refine walkL_region fun K hK => ?_; simp (maxSteps := 4000000) only [go_sem]; (repeat (first | (refine ⟨_, .lent (hf := h72a) (hd := rfl) (hr := rfl), ?_⟩; simp (maxSteps := 4000000) only [go_sem]) | (refine ⟨_, .lent (hf := h72b) (hd := rfl) (hr := rfl), ?_⟩; simp (maxSteps := 4000000) only [go_sem]) | (refine ⟨_, .lent (hf := k1) (hd := rfl) (hr := rfl), ?_⟩; simp (maxSteps := 4000000) only [go_sem]) | (refine ⟨_, .lent (hf := k2) (hd := rfl) (hr := rfl), ?_⟩; simp (maxSteps := 4000000) only [go_sem]) | (refine ⟨_, .given (hf := h72a) (hd := rfl) (ha := rfl), ?_⟩; simp (maxSteps := 4000000) only [go_sem]) | (refine ⟨_, .given (hf := h72b) (hd := rfl) (ha := rfl), ?_⟩; simp (maxSteps := 4000000) only [go_sem]) | (refine ⟨_, .given (hf := k1) (hd := rfl) (ha := rfl), ?_⟩; simp (maxSteps := 4000000) only [go_sem]) | (refine ⟨_, .given (hf := k2) (hd := rfl) (ha := rfl), ?_⟩; simp (maxSteps := 4000000) only [go_sem]))); refine hK _ ?_; clear hK K) | refine walkL_nil ?_ | refine walkL_ret ?_ | refine walkL_exit ?_ | refine blockA_here ?_ | refine blockA_other rfl ?_ | refine blockA_ret ?_ | refine blockA_normal ?_ | refine thenA_ret ?_ | refine thenA_exit ?_ | refine thenA_normal ?_)
      simp (maxSteps := 4000000) only [go_sem, plantBad, q1, q2, q3, q4, Bool.not_false, Bool.not_true, Bool.false_or, Bool.true_or, if_true]
    rw [q4] at k2
    by_cases q5' : p.stop > 200
    · have q5 : decide (p.stop > 200) = true := decide_eq_true q5'
      repeat (first | refine walkL_true rfl ?_ | refine walkL_false rfl ?_ | refine walkL_seq ?_ | refine walkL_skip ?_ | refine walkL_block ?_ | (refine walkL_region fun K hK => ?_; simp (maxSteps := 4000000) only [go_sem, q5]; (repeat (first | (refine ⟨_, .lent (hf := h72a) (hd := rfl) (hr := rfl), ?_⟩; simp (maxSteps := 4000000) only [go_sem, q5]) | (refine ⟨_, .lent (hf := h72b) (hd := rfl) (hr := rfl), ?_⟩; simp (maxSteps := 4000000) only [go_sem, q5]) | (refine ⟨_, .lent (hf := k1) (hd := rfl) (hr := rfl), ?_⟩; simp (maxSteps := 4000000) only [go_sem, q5]) | (refine ⟨_, .lent (hf := k2) (hd := rfl) (hr := rfl), ?_⟩; simp (maxSteps := 4000000) only [go_sem, q5]) | (refine ⟨_, .given (hf := h72a) (hd := rfl) (ha := rfl), ?_⟩; simp (maxSteps := 4000000) only [go_sem, q5]) | (refine ⟨_, .given (hf := h72b) (hd := rfl) (ha := rfl), ?_⟩; simp (maxSteps := 4000000) only [go_sem, q5]) | (refine ⟨_, .given (hf := k1) (hd := rfl) (ha := rfl), ?_⟩; simp (maxSteps := 4000000) only [go_sem, q5]) | (refine ⟨_, .given (hf := k2) (hd := rfl) (ha := rfl), ?_⟩; simp (maxSteps := 4000000) only [go_sem, q5]))); refine hK _ ?_; clear hK K) | refine walkL_nil ?_ | refine walkL_ret ?_ | refine walkL_exit ?_ | refine blockA_here ?_ | refine blockA_other rfl ?_ | refine blockA_ret ?_ | refine blockA_normal ?_ | refine thenA_ret ?_ | refine thenA_exit ?_ | refine thenA_normal ?_)
      simp (maxSteps := 4000000) only [go_sem, plantBad, q1, q2, q3, q4, q5, Bool.not_false, Bool.not_true, Bool.false_or, Bool.true_or, if_true]
    have q5 : decide (p.stop > 200) = false := decide_eq_false q5'
    repeat (first | refine walkL_true rfl ?_ | refine walkL_false rfl ?_ | refine walkL_seq ?_ | refine walkL_skip ?_ | refine walkL_block ?_ | (refine walkL_region fun K hK => ?_; simp (maxSteps := 4000000) only [go_sem, q5]; (repeat (first | (refine ⟨_, .lent (hf := h72a) (hd := rfl) (hr := rfl), ?_⟩; simp (maxSteps := 4000000) only [go_sem, q5]) | (refine ⟨_, .lent (hf := h72b) (hd := rfl) (hr := rfl), ?_⟩; simp (maxSteps := 4000000) only [go_sem, q5]) | (refine ⟨_, .lent (hf := k1) (hd := rfl) (hr := rfl), ?_⟩; simp (maxSteps := 4000000) only [go_sem, q5]) | (refine ⟨_, .lent (hf := k2) (hd := rfl) (hr := rfl), ?_⟩; simp (maxSteps := 4000000) only [go_sem, q5]) | (refine ⟨_, .given (hf := h72a) (hd := rfl) (ha := rfl), ?_⟩; simp (maxSteps := 4000000) only [go_sem, q5]) | (refine ⟨_, .given (hf := h72b) (hd := rfl) (ha := rfl), ?_⟩; simp (maxSteps := 4000000) only [go_sem, q5]) | (refine ⟨_, .given (hf := k1) (hd := rfl) (ha := rfl), ?_⟩; simp (maxSteps := 4000000) only [go_sem, q5]) | (refine ⟨_, .given (hf := k2) (hd := rfl) (ha := rfl), ?_⟩; simp (maxSteps := 4000000) only [go_sem, q5]))); refine hK _ ?_; clear hK K) | refine walkL_nil ?_ | refine walkL_ret ?_ | refine walkL_exit ?_ | refine blockA_here ?_ | refine blockA_other rfl ?_ | refine blockA_ret ?_ | refine blockA_normal ?_ | refine thenA_ret ?_ | refine thenA_exit ?_ | refine thenA_normal ?_)
    cases q6 : withinB p.capacity 0 100000
    · rw [q6] at k4
      repeat (first | refine walkL_true rfl ?_ | refine walkL_false rfl ?_ | refine walkL_seq ?_ | refine walkL_skip ?_ | refine walkL_block ?_ | (refine walkL_region fun K hK => ?_; simp (maxSteps := 4000000) only [go_sem]; (repeat (first | (refine ⟨_, .lent (hf := k4) (hd := rfl) (hr := rfl), ?_⟩; simp (maxSteps := 4000000) only [go_sem]) | (refine ⟨_, .given (hf := k4) (hd := rfl) (ha := rfl), ?_⟩; simp (maxSteps := 4000000) only [go_sem]))); refine hK _ ?_; clear hK K) | refine walkL_nil ?_ | refine walkL_ret ?_ | refine walkL_exit ?_ | refine blockA_here ?_ | refine blockA_other rfl ?_ | refine blockA_ret ?_ | refine blockA_normal ?_ | refine thenA_ret ?_ | refine thenA_exit ?_ | refine thenA_normal ?_)
      simp (maxSteps := 4000000) only [go_sem, plantBad, q1, q2, q3, q4, q5, q6, Bool.not_false, Bool.not_true, Bool.false_or, Bool.true_or, if_true]
    rw [q6] at k4
    cases q7 : withinB p.charge 0 p.capacity
    · rw [q7] at k5
      repeat (first | refine walkL_true rfl ?_ | refine walkL_false rfl ?_ | refine walkL_seq ?_ | refine walkL_skip ?_ | refine walkL_block ?_ | (refine walkL_region fun K hK => ?_; simp (maxSteps := 4000000) only [go_sem]; (repeat (first | (refine ⟨_, .lent (hf := k4) (hd := rfl) (hr := rfl), ?_⟩; simp (maxSteps := 4000000) only [go_sem]) | (refine ⟨_, .lent (hf := k5) (hd := rfl) (hr := rfl), ?_⟩; simp (maxSteps := 4000000) only [go_sem]) | (refine ⟨_, .given (hf := k4) (hd := rfl) (ha := rfl), ?_⟩; simp (maxSteps := 4000000) only [go_sem]) | (refine ⟨_, .given (hf := k5) (hd := rfl) (ha := rfl), ?_⟩; simp (maxSteps := 4000000) only [go_sem]))); refine hK _ ?_; clear hK K) | refine walkL_nil ?_ | refine walkL_ret ?_ | refine walkL_exit ?_ | refine blockA_here ?_ | refine blockA_other rfl ?_ | refine blockA_ret ?_ | refine blockA_normal ?_ | refine thenA_ret ?_ | refine thenA_exit ?_ | refine thenA_normal ?_)
      simp (maxSteps := 4000000) only [go_sem, plantBad, q1, q2, q3, q4, q5, q6, q7, Bool.not_false, Bool.not_true, Bool.false_or, Bool.true_or, if_true]
    rw [q7] at k5
    cases q8 : withinB p.reserve 0 p.capacity
    · rw [q8] at k6
      repeat (first | refine walkL_true rfl ?_ | refine walkL_false rfl ?_ | refine walkL_seq ?_ | refine walkL_skip ?_ | refine walkL_block ?_ | (refine walkL_region fun K hK => ?_; simp (maxSteps := 4000000) only [go_sem]; (repeat (first | (refine ⟨_, .lent (hf := k4) (hd := rfl) (hr := rfl), ?_⟩; simp (maxSteps := 4000000) only [go_sem]) | (refine ⟨_, .lent (hf := k5) (hd := rfl) (hr := rfl), ?_⟩; simp (maxSteps := 4000000) only [go_sem]) | (refine ⟨_, .lent (hf := k6) (hd := rfl) (hr := rfl), ?_⟩; simp (maxSteps := 4000000) only [go_sem]) | (refine ⟨_, .given (hf := k4) (hd := rfl) (ha := rfl), ?_⟩; simp (maxSteps := 4000000) only [go_sem]) | (refine ⟨_, .given (hf := k5) (hd := rfl) (ha := rfl), ?_⟩; simp (maxSteps := 4000000) only [go_sem]) | (refine ⟨_, .given (hf := k6) (hd := rfl) (ha := rfl), ?_⟩; simp (maxSteps := 4000000) only [go_sem]))); refine hK _ ?_; clear hK K) | refine walkL_nil ?_ | refine walkL_ret ?_ | refine walkL_exit ?_ | refine blockA_here ?_ | refine blockA_other rfl ?_ | refine blockA_ret ?_ | refine blockA_normal ?_ | refine thenA_ret ?_ | refine thenA_exit ?_ | refine thenA_normal ?_)
      simp (maxSteps := 4000000) only [go_sem, plantBad, q1, q2, q3, q4, q5, q6, q7, q8, Bool.not_false, Bool.not_true, Bool.false_or, Bool.true_or, if_true]
    rw [q8] at k6
    cases q9 : withinB p.gas 0 10000
    · rw [q9] at k7
      repeat (first | refine walkL_true rfl ?_ | refine walkL_false rfl ?_ | refine walkL_seq ?_ | refine walkL_skip ?_ | refine walkL_block ?_ | (refine walkL_region fun K hK => ?_; simp (maxSteps := 4000000) only [go_sem]; (repeat (first | (refine ⟨_, .lent (hf := k4) (hd := rfl) (hr := rfl), ?_⟩; simp (maxSteps := 4000000) only [go_sem]) | (refine ⟨_, .lent (hf := k5) (hd := rfl) (hr := rfl), ?_⟩; simp (maxSteps := 4000000) only [go_sem]) | (refine ⟨_, .lent (hf := k6) (hd := rfl) (hr := rfl), ?_⟩; simp (maxSteps := 4000000) only [go_sem]) | (refine ⟨_, .lent (hf := k7) (hd := rfl) (hr := rfl), ?_⟩; simp (maxSteps := 4000000) only [go_sem]) | (refine ⟨_, .given (hf := k4) (hd := rfl) (ha := rfl), ?_⟩; simp (maxSteps := 4000000) only [go_sem]) | (refine ⟨_, .given (hf := k5) (hd := rfl) (ha := rfl), ?_⟩; simp (maxSteps := 4000000) only [go_sem]) | (refine ⟨_, .given (hf := k6) (hd := rfl) (ha := rfl), ?_⟩; simp (maxSteps := 4000000) only [go_sem]) | (refine ⟨_, .given (hf := k7) (hd := rfl) (ha := rfl), ?_⟩; simp (maxSteps := 4000000) only [go_sem]))); refine hK _ ?_; clear hK K) | refine walkL_nil ?_ | refine walkL_ret ?_ | refine walkL_exit ?_ | refine blockA_here ?_ | refine blockA_other rfl ?_ | refine blockA_ret ?_ | refine blockA_normal ?_ | refine thenA_ret ?_ | refine thenA_exit ?_ | refine thenA_normal ?_)
      simp (maxSteps := 4000000) only [go_sem, plantBad, q1, q2, q3, q4, q5, q6, q7, q8, q9, Bool.not_false, Bool.not_true, Bool.false_or, Bool.true_or, if_true]
    rw [q9] at k7
    cases q10 : withinB p.rate 0 10
    · rw [q10] at k8
      repeat (first | refine walkL_true rfl ?_ | refine walkL_false rfl ?_ | refine walkL_seq ?_ | refine walkL_skip ?_ | refine walkL_block ?_ | (refine walkL_region fun K hK => ?_; simp (maxSteps := 4000000) only [go_sem]; (repeat (first | (refine ⟨_, .lent (hf := k4) (hd := rfl) (hr := rfl), ?_⟩; simp (maxSteps := 4000000) only [go_sem]) | (refine ⟨_, .lent (hf := k5) (hd := rfl) (hr := rfl), ?_⟩; simp (maxSteps := 4000000) only [go_sem]) | (refine ⟨_, .lent (hf := k6) (hd := rfl) (hr := rfl), ?_⟩; simp (maxSteps := 4000000) only [go_sem]) | (refine ⟨_, .lent (hf := k7) (hd := rfl) (hr := rfl), ?_⟩; simp (maxSteps := 4000000) only [go_sem]) | (refine ⟨_, .lent (hf := k8) (hd := rfl) (hr := rfl), ?_⟩; simp (maxSteps := 4000000) only [go_sem]) | (refine ⟨_, .given (hf := k4) (hd := rfl) (ha := rfl), ?_⟩; simp (maxSteps := 4000000) only [go_sem]) | (refine ⟨_, .given (hf := k5) (hd := rfl) (ha := rfl), ?_⟩; simp (maxSteps := 4000000) only [go_sem]) | (refine ⟨_, .given (hf := k6) (hd := rfl) (ha := rfl), ?_⟩; simp (maxSteps := 4000000) only [go_sem]) | (refine ⟨_, .given (hf := k7) (hd := rfl) (ha := rfl), ?_⟩; simp (maxSteps := 4000000) only [go_sem]) | (refine ⟨_, .given (hf := k8) (hd := rfl) (ha := rfl), ?_⟩; simp (maxSteps := 4000000) only [go_sem]))); refine hK _ ?_; clear hK K) | refine walkL_nil ?_ | refine walkL_ret ?_ | refine walkL_exit ?_ | refine blockA_here ?_ | refine blockA_other rfl ?_ | refine blockA_ret ?_ | refine blockA_normal ?_ | refine thenA_ret ?_ | refine thenA_exit ?_ | refine thenA_normal ?_)
      simp (maxSteps := 4000000) only [go_sem, plantBad, q1, q2, q3, q4, q5, q6, q7, q8, q9, q10, Bool.not_false, Bool.not_true, Bool.false_or, Bool.true_or, if_true]
    rw [q10] at k8
    cases q11 : withinB p.units 0 200
    · rw [q11] at k9
      repeat (first | refine walkL_true rfl ?_ | refine walkL_false rfl ?_ | refine walkL_seq ?_ | refine walkL_skip ?_ | refine walkL_block ?_ | (refine walkL_region fun K hK => ?_; simp (maxSteps := 4000000) only [go_sem]; (repeat (first | (refine ⟨_, .lent (hf := k4) (hd := rfl) (hr := rfl), ?_⟩; simp (maxSteps := 4000000) only [go_sem]) | (refine ⟨_, .lent (hf := k5) (hd := rfl) (hr := rfl), ?_⟩; simp (maxSteps := 4000000) only [go_sem]) | (refine ⟨_, .lent (hf := k6) (hd := rfl) (hr := rfl), ?_⟩; simp (maxSteps := 4000000) only [go_sem]) | (refine ⟨_, .lent (hf := k7) (hd := rfl) (hr := rfl), ?_⟩; simp (maxSteps := 4000000) only [go_sem]) | (refine ⟨_, .lent (hf := k8) (hd := rfl) (hr := rfl), ?_⟩; simp (maxSteps := 4000000) only [go_sem]) | (refine ⟨_, .lent (hf := k9) (hd := rfl) (hr := rfl), ?_⟩; simp (maxSteps := 4000000) only [go_sem]) | (refine ⟨_, .given (hf := k4) (hd := rfl) (ha := rfl), ?_⟩; simp (maxSteps := 4000000) only [go_sem]) | (refine ⟨_, .given (hf := k5) (hd := rfl) (ha := rfl), ?_⟩; simp (maxSteps := 4000000) only [go_sem]) | (refine ⟨_, .given (hf := k6) (hd := rfl) (ha := rfl), ?_⟩; simp (maxSteps := 4000000) only [go_sem]) | (refine ⟨_, .given (hf := k7) (hd := rfl) (ha := rfl), ?_⟩; simp (maxSteps := 4000000) only [go_sem]) | (refine ⟨_, .given (hf := k8) (hd := rfl) (ha := rfl), ?_⟩; simp (maxSteps := 4000000) only [go_sem]) | (refine ⟨_, .given (hf := k9) (hd := rfl) (ha := rfl), ?_⟩; simp (maxSteps := 4000000) only [go_sem]))); refine hK _ ?_; clear hK K) | refine walkL_nil ?_ | refine walkL_ret ?_ | refine walkL_exit ?_ | refine blockA_here ?_ | refine blockA_other rfl ?_ | refine blockA_ret ?_ | refine blockA_normal ?_ | refine thenA_ret ?_ | refine thenA_exit ?_ | refine thenA_normal ?_)
      simp (maxSteps := 4000000) only [go_sem, plantBad, q1, q2, q3, q4, q5, q6, q7, q8, q9, q10, q11, Bool.not_false, Bool.not_true, Bool.false_or, if_true]
    · rw [q11] at k9
      repeat (first | refine walkL_true rfl ?_ | refine walkL_false rfl ?_ | refine walkL_seq ?_ | refine walkL_skip ?_ | refine walkL_block ?_ | (refine walkL_region fun K hK => ?_; simp (maxSteps := 4000000) only [go_sem]; (repeat (first | (refine ⟨_, .lent (hf := k4) (hd := rfl) (hr := rfl), ?_⟩; simp (maxSteps := 4000000) only [go_sem]) | (refine ⟨_, .lent (hf := k5) (hd := rfl) (hr := rfl), ?_⟩; simp (maxSteps := 4000000) only [go_sem]) | (refine ⟨_, .lent (hf := k6) (hd := rfl) (hr := rfl), ?_⟩; simp (maxSteps := 4000000) only [go_sem]) | (refine ⟨_, .lent (hf := k7) (hd := rfl) (hr := rfl), ?_⟩; simp (maxSteps := 4000000) only [go_sem]) | (refine ⟨_, .lent (hf := k8) (hd := rfl) (hr := rfl), ?_⟩; simp (maxSteps := 4000000) only [go_sem]) | (refine ⟨_, .lent (hf := k9) (hd := rfl) (hr := rfl), ?_⟩; simp (maxSteps := 4000000) only [go_sem]) | (refine ⟨_, .given (hf := k4) (hd := rfl) (ha := rfl), ?_⟩; simp (maxSteps := 4000000) only [go_sem]) | (refine ⟨_, .given (hf := k5) (hd := rfl) (ha := rfl), ?_⟩; simp (maxSteps := 4000000) only [go_sem]) | (refine ⟨_, .given (hf := k6) (hd := rfl) (ha := rfl), ?_⟩; simp (maxSteps := 4000000) only [go_sem]) | (refine ⟨_, .given (hf := k7) (hd := rfl) (ha := rfl), ?_⟩; simp (maxSteps := 4000000) only [go_sem]) | (refine ⟨_, .given (hf := k8) (hd := rfl) (ha := rfl), ?_⟩; simp (maxSteps := 4000000) only [go_sem]) | (refine ⟨_, .given (hf := k9) (hd := rfl) (ha := rfl), ?_⟩; simp (maxSteps := 4000000) only [go_sem]))); refine hK _ ?_; clear hK K) | refine walkL_nil ?_ | refine walkL_ret ?_ | refine walkL_exit ?_ | refine blockA_here ?_ | refine blockA_other rfl ?_ | refine blockA_ret ?_ | refine blockA_normal ?_ | refine thenA_ret ?_ | refine thenA_exit ?_ | refine thenA_normal ?_)
      simp (maxSteps := 4000000) only [go_sem, plantBad, q1, q2, q3, q4, q5, q6, q7, q8, q9, q10, q11, Bool.not_false, Bool.not_true, Bool.false_or, Bool.false_eq_true, if_false]
  · rw [if_neg hlk] at h33
    have e : plantE p = lookF p.scen p.seen 0 true := by rw [plantE, if_neg hlk]
    rw [e]
    have hz : (lookF p.scen p.seen 0 true != 0) = true := by simpa using hlk
    refine fn_walk 92 Tryz.call30 Tryz.func30 rfl (by decide) fun J => ?_
    simp (maxSteps := 4000000) only [go_sem, St.start, Tryz.ntmps30, Tryz.results30, Plant.cells]
    repeat (first | refine walkL_true rfl ?_ | refine walkL_false rfl ?_ | refine walkL_seq ?_ | refine walkL_skip ?_ | refine walkL_block ?_ | (refine walkL_region fun K hK => ?_; simp (maxSteps := 4000000) only [go_sem, hz]; (repeat (first | (refine ⟨_, .lent (hf := h33) (hd := rfl) (hr := rfl), ?_⟩; simp (maxSteps := 4000000) only [go_sem, hz]) | (refine ⟨_, .given (hf := h33) (hd := rfl) (ha := rfl), ?_⟩; simp (maxSteps := 4000000) only [go_sem, hz]))); refine hK _ ?_; clear hK K) | refine walkL_nil ?_ | refine walkL_ret ?_ | refine walkL_exit ?_ | refine blockA_here ?_ | refine blockA_other rfl ?_ | refine blockA_ret ?_ | refine blockA_normal ?_ | refine thenA_ret ?_ | refine thenA_exit ?_ | refine thenA_normal ?_)
    simp (maxSteps := 4000000) only [go_sem]
end Go.Ab
namespace Go.Ab
open Go.RowKit Go.Proofs
set_option maxHeartbeats 8000000
set_option maxRecDepth 20000
attribute [local irreducible] WalkL Walk
def eqAll : List Hour → List Sky → Bool
  | [], [] => true
  | h :: l, s :: m => insideB s h && eqAll l m
  | _, _ => false
theorem zf218 (xs : List (List Hour)) (g : Nat) (caps : List DV) (q : (List Hour) → Bool) (hq : ∀ s ∈ xs, Fn Tryz.prog g (.sl (hourRows s) :: caps) (.bool (q s))) (hl : xs.length < 2 ^ 62) : Fn Tryz.prog 218 [.sl (scenRows xs), .fn g caps] (.i (idxFrom q xs 0)) := by
  refine fn_walk 19 Tryz.call218 Tryz.func218 rfl (by decide) fun J => ?_
  simp (maxSteps := 4000000) only [go_sem, St.start, Tryz.ntmps218, Tryz.results218]
  repeat (first | refine walkL_seq ?_ | refine walkL_skip ?_ | refine walkL_block ?_ | (refine walkL_region fun K hK => ?_; simp (maxSteps := 4000000) only [go_sem]; refine hK _ ?_; clear hK K) | refine walkL_nil ?_ | refine walkL_ret ?_ | refine walkL_exit ?_ | refine blockA_here ?_ | refine blockA_other rfl ?_ | refine blockA_ret ?_ | refine blockA_normal ?_ | refine thenA_ret ?_ | refine thenA_exit ?_ | refine thenA_normal ?_)
  refine walkL_loopS (fun (i : Nat) => [(8, .d (.i i))]) (fun _ => []) (fun i => i ≤ xs.length ∧ idxFrom q xs 0 = idxFrom q (xs.drop i) i) (fun i => xs.length - i) 0 ?_ ⟨Nat.zero_le _, rfl⟩ ?_
  · simp (maxSteps := 4000000) only [go_sem]
    refine weak_of [] ?_ ?_ rfl rfl <;> simp [lessT, lessM, lessB, AV.less]
  · intro i ⟨hi, hq0⟩
    simp (maxSteps := 4000000) only [go_sem]
    repeat (first | refine walkL_seq ?_ | refine walkL_skip ?_ | refine walkL_block ?_ | (refine walkL_region fun K hK => ?_; simp (maxSteps := 4000000) only [go_sem]; refine hK _ ?_; clear hK K) | refine walkL_nil ?_ | refine walkL_ret ?_ | refine walkL_exit ?_ | refine blockA_here ?_ | refine blockA_other rfl ?_ | refine blockA_ret ?_ | refine blockA_normal ?_ | refine thenA_ret ?_ | refine thenA_exit ?_ | refine thenA_normal ?_)
    refine walkL_cond rfl (fun hb => ?_) (fun hb => ?_)
    · have hlt : i < xs.length := by simpa using hb
      have hw : IntKind.i64.wrap ((i : Int) + 1) = ((i + 1 : Nat) : Int) := by rw [wr_small (by omega)]; simp
      obtain ⟨s, hs⟩ : ∃ s, xs[i]? = some s := ⟨_, List.getElem?_eq_getElem hlt⟩
      rw [drop_get hs, idxFrom] at hq0
      repeat (first | refine walkL_seq ?_ | refine walkL_skip ?_ | refine walkL_block ?_ | (refine walkL_region fun K hK => ?_; simp (maxSteps := 4000000) only [go_sem]; refine hK _ ?_; clear hK K) | refine walkL_nil ?_ | refine walkL_ret ?_ | refine walkL_exit ?_ | refine blockA_here ?_ | refine blockA_other rfl ?_ | refine blockA_ret ?_ | refine blockA_normal ?_ | refine thenA_ret ?_ | refine thenA_exit ?_ | refine thenA_normal ?_)
      refine walkL_region fun K hK => ?_
      simp (maxSteps := 4000000) only [go_sem, hs, List.getElem?_map, scenRows_at hs, hw]
      refine ⟨_, .lent (hf := hq s (List.mem_of_getElem? hs)) (hd := reify_caps _ _ _ _ rfl) (hr := rfl), ?_⟩
      simp (maxSteps := 4000000) only [go_sem]
      refine hK _ ?_
      clear hK K
      refine walkL_cond rfl (fun hc => ?_) (fun hc => ?_)
      · rw [hc, if_pos rfl] at hq0
        repeat (first | refine walkL_seq ?_ | refine walkL_skip ?_ | refine walkL_block ?_ | (refine walkL_region fun K hK => ?_; simp (maxSteps := 4000000) only [go_sem]; refine hK _ ?_; clear hK K) | refine walkL_nil ?_ | refine walkL_ret ?_ | refine walkL_exit ?_ | refine blockA_here ?_ | refine blockA_other rfl ?_ | refine blockA_ret ?_ | refine blockA_normal ?_ | refine thenA_ret ?_ | refine thenA_exit ?_ | refine thenA_normal ?_)
        simp (maxSteps := 4000000) only [go_sem, hq0]
      · rw [hc] at hq0
        repeat (first | refine walkL_seq ?_ | refine walkL_skip ?_ | refine walkL_block ?_ | (refine walkL_region fun K hK => ?_; simp (maxSteps := 4000000) only [go_sem, hw]; refine hK _ ?_; clear hK K) | refine walkL_nil ?_ | refine walkL_ret ?_ | refine walkL_exit ?_ | refine blockA_here ?_ | refine blockA_other rfl ?_ | refine blockA_ret ?_ | refine blockA_normal ?_ | refine thenA_ret ?_ | refine thenA_exit ?_ | refine thenA_normal ?_)
        refine ⟨rfl, i + 1, ?_, ⟨hlt, hq0⟩, by omega⟩
        refine weak_of [] ?_ ?_ rfl rfl <;> simp [lessT, lessM, lessB, AV.less]
    · have he : i = xs.length := by (have : ¬ i < xs.length := by simpa using hb); omega
      subst he
      repeat (first | refine walkL_seq ?_ | refine walkL_skip ?_ | refine walkL_block ?_ | (refine walkL_region fun K hK => ?_; simp (maxSteps := 4000000) only [go_sem]; refine hK _ ?_; clear hK K) | refine walkL_nil ?_ | refine walkL_ret ?_ | refine walkL_exit ?_ | refine blockA_here ?_ | refine blockA_other rfl ?_ | refine blockA_ret ?_ | refine blockA_normal ?_ | refine thenA_ret ?_ | refine thenA_exit ?_ | refine thenA_normal ?_)
      simp (maxSteps := 4000000) only [go_sem, hq0, List.drop_length, idxFrom]
theorem zf191 (xs : List (List Hour)) (g : Nat) (caps : List DV) (q : (List Hour) → Bool) (hq : ∀ s ∈ xs, Fn Tryz.prog g (.sl (hourRows s) :: caps) (.bool (q s))) (hl : xs.length < 2 ^ 62) : Fn Tryz.prog 191 [.sl (scenRows xs), .fn g caps] (.bool (xs.any q)) := by
  refine fn_walk 9 Tryz.call191 Tryz.func191 rfl (by decide) fun J => ?_
  simp (maxSteps := 4000000) only [go_sem, St.start, Tryz.ntmps191, Tryz.results191]
  repeat (first | refine walkL_seq ?_ | refine walkL_skip ?_ | refine walkL_block ?_ | (refine walkL_region fun K hK => ?_; simp (maxSteps := 4000000) only [go_sem]; (repeat (first | (refine ⟨_, .lent (hf := zf218 xs g caps q hq hl) (hd := rfl) (hr := rfl), ?_⟩; simp (maxSteps := 4000000) only [go_sem]) | (refine ⟨_, .given (hf := zf218 xs g caps q hq hl) (hd := rfl) (ha := rfl), ?_⟩; simp (maxSteps := 4000000) only [go_sem]))); refine hK _ ?_; clear hK K) | refine walkL_nil ?_ | refine walkL_ret ?_ | refine walkL_exit ?_ | refine blockA_here ?_ | refine blockA_other rfl ?_ | refine blockA_ret ?_ | refine blockA_normal ?_ | refine thenA_ret ?_ | refine thenA_exit ?_ | refine thenA_normal ?_)
  simp (maxSteps := 4000000) only [go_sem, idxFrom_nonneg]
def weatherB (g : Grid) (m : List Sky) : Bool := g.scen.any fun l => eqAll l m
def levsTo (p : Plant) (burn : List Int) (skies : List Sky) (k : Nat) : List Int := (List.range k).map fun j => lvAt p burn skies (j + 1)
def lostTo (p : Plant) (burn : List Int) (skies : List Sky) : Nat → Int
  | 0 => 0
  | k + 1 => wr (lostTo p burn skies k + lostAt p burn skies k)
def levelsE (p : Plant) (burn : List Int) (m : List Sky) : Int := if openE p [burn] = 0 then (if weatherB (gridOf p) m then 0 else 102) else openE p [burn]
def levelsP (p : Plant) (burn : List Int) (m : List Sky) : List Int × Int × Int :=
  if levelsE p burn m = 0 then (levsTo p burn m m.length, lostTo p burn m m.length, 0) else ([], 0, levelsE p burn m)
theorem open_nil {p : Plant} {bs : List (List Int)} (h : openE p bs = 0) : openE p [] = 0 ∧ ∀ b ∈ bs, burnB (gridOf p) b = true := by
  unfold openE at h ⊢
  split at h
  · rename_i hlk
    rw [if_pos hlk]
    split at h
    · cases h
    · rename_i hb
      rw [if_neg hb]
      split at h
      · cases h
      · rename_i hn
        refine ⟨by simp, fun b hm => ?_⟩
        have := any_false_get (Bool.eq_false_iff.2 hn) b hm
        simpa using this
  · rename_i hlk; exact absurd h hlk
theorem burn_len {g : Grid} {H : Nat} (hg : GridOk g H) {b : List Int} (h : burnB g b = true) : b.length = H := by
  unfold burnB at h
  rw [Bool.and_eq_true, Bool.and_eq_true, beq_iff_eq, hg.hours] at h
  omega
def lastsP (p : Plant) (burn : List Int) : Int × Int := if openE p [burn] = 0 then ((hardF (gridOf p) burn).2, 0) else (0, openE p [burn])
def worstP (p : Plant) (burn : List Int) : List Sky × Int :=
  if openE p [burn] = 0 then (if (hardF (gridOf p) burn).2 = (gridOf p).hours then ([], 3) else ((hardF (gridOf p) burn).1, 0)) else ([], openE p [burn])
theorem zf33 (p : Plant) (burn : List Int) (hs : PlantSmall p) (hb : burn.length < 2 ^ 30) : Fn Tryz.prog 33 [.agg p.cells, .sl (intRows burn)] (.tup [.i (lastsP p burn).1, .i (lastsP p burn).2]) := by
  have h44 := zf77 p [burn] hs (by simp) (by simpa using hb)
  have e0 : listRows [burn] = [[.sl (intRows burn)]] := rfl
  rw [e0, Plant.cells] at h44
  by_cases hz : openE p [burn] = 0
  · obtain ⟨hz0, hbn⟩ := open_nil hz
    obtain ⟨H, hg, _⟩ := grid_ok hz0
    have hbl := burn_len hg (hbn burn (by simp))
    have h51 := zf78 (gridOf p) H burn hg hbl
    rw [if_pos hz, hz] at h44
    have e1 : lastsP p burn = ((hardF (gridOf p) burn).2, 0) := by rw [lastsP, if_pos hz]
    rw [e1]
    obtain ⟨g, hgg⟩ : ∃ g, g = gridOf p := ⟨_, rfl⟩
    rw [← hgg] at h44 h51 ⊢
    rw [Grid.cells] at h44 h51
    refine fn_walk 27 Tryz.call33 Tryz.func33 rfl (by decide) fun J => ?_
    simp (maxSteps := 4000000) only [go_sem, St.start, Tryz.ntmps33, Tryz.results33, Plant.cells]
    repeat (first | refine walkL_true rfl ?_ | refine walkL_false rfl ?_ | refine walkL_seq ?_ | refine walkL_skip ?_ | refine walkL_block ?_ | (refine walkL_region fun K hK => ?_; simp (maxSteps := 4000000) only [go_sem]; (repeat (first | (refine ⟨_, .lent (hf := h44) (hd := rfl) (hr := rfl), ?_⟩; simp (maxSteps := 4000000) only [go_sem]) | (refine ⟨_, .lent (hf := h51) (hd := rfl) (hr := rfl), ?_⟩; simp (maxSteps := 4000000) only [go_sem]) | (refine ⟨_, .given (hf := h44) (hd := rfl) (ha := rfl), ?_⟩; simp (maxSteps := 4000000) only [go_sem]) | (refine ⟨_, .given (hf := h51) (hd := rfl) (ha := rfl), ?_⟩; simp (maxSteps := 4000000) only [go_sem]))); refine hK _ ?_; clear hK K) | refine walkL_nil ?_ | refine walkL_ret ?_ | refine walkL_exit ?_ | refine blockA_here ?_ | refine blockA_other rfl ?_ | refine blockA_ret ?_ | refine blockA_normal ?_ | refine thenA_ret ?_ | refine thenA_exit ?_ | refine thenA_normal ?_)
    simp (maxSteps := 4000000) only [go_sem]
  · have e1 : lastsP p burn = (0, openE p [burn]) := by rw [lastsP, if_neg hz]
    rw [if_neg hz] at h44
    rw [e1]
    have q2 : (openE p [burn] != 0) = true := by simpa using hz
    refine fn_walk 27 Tryz.call33 Tryz.func33 rfl (by decide) fun J => ?_
    simp (maxSteps := 4000000) only [go_sem, St.start, Tryz.ntmps33, Tryz.results33, Plant.cells]
    repeat (first | refine walkL_true rfl ?_ | refine walkL_false rfl ?_ | refine walkL_seq ?_ | refine walkL_skip ?_ | refine walkL_block ?_ | (refine walkL_region fun K hK => ?_; simp (maxSteps := 4000000) only [go_sem, q2]; (repeat (first | (refine ⟨_, .lent (hf := h44) (hd := rfl) (hr := rfl), ?_⟩; simp (maxSteps := 4000000) only [go_sem, q2]) | (refine ⟨_, .given (hf := h44) (hd := rfl) (ha := rfl), ?_⟩; simp (maxSteps := 4000000) only [go_sem, q2]))); refine hK _ ?_; clear hK K) | refine walkL_nil ?_ | refine walkL_ret ?_ | refine walkL_exit ?_ | refine blockA_here ?_ | refine blockA_other rfl ?_ | refine blockA_ret ?_ | refine blockA_normal ?_ | refine thenA_ret ?_ | refine thenA_exit ?_ | refine thenA_normal ?_)
    simp (maxSteps := 4000000) only [go_sem]
end Go.Ab
namespace Go.Ab
open Go.RowKit Go.Proofs
set_option maxHeartbeats 8000000
set_option maxRecDepth 40000
attribute [local irreducible] WalkL Walk
theorem zf144 (lo hi : Int) : Fn Tryz.prog 144 [.i lo, .i hi] (.agg [.i lo, .i hi]) := by
  refine fn_walk 8 Tryz.call144 Tryz.func144 rfl (by decide) fun J => ?_
  simp (maxSteps := 4000000) only [go_sem, St.start, Tryz.ntmps144, Tryz.results144]
  repeat (first | refine walkL_seq ?_ | refine walkL_skip ?_ | refine walkL_block ?_ | (refine walkL_region fun K hK => ?_; simp (maxSteps := 4000000) only [go_sem]; refine hK _ ?_; clear hK K) | refine walkL_nil ?_ | refine walkL_ret ?_ | refine walkL_exit ?_ | refine blockA_here ?_ | refine blockA_other rfl ?_ | refine blockA_ret ?_ | refine blockA_normal ?_ | refine thenA_ret ?_ | refine thenA_exit ?_ | refine thenA_normal ?_)
  simp (maxSteps := 4000000) only [go_sem]
def exH (lo hi : Int) : Hour := ⟨⟨lo, hi⟩, ⟨0, 0⟩, ⟨0, 10⟩⟩
theorem zf143 (lo hi : Int) : Fn Tryz.prog 143 [.i lo, .i hi] (.agg (exH lo hi).row) := by
  have h1 := zf144 lo hi
  have h2 := zf144 0 10
  refine fn_walk 10 Tryz.call143 Tryz.func143 rfl (by decide) fun J => ?_
  simp (maxSteps := 4000000) only [go_sem, St.start, Tryz.ntmps143, Tryz.results143]
  repeat (first | refine walkL_seq ?_ | refine walkL_skip ?_ | refine walkL_block ?_ | (refine walkL_region fun K hK => ?_; simp (maxSteps := 4000000) only [go_sem]; (repeat (first | (refine ⟨_, .lent (hf := h1) (hd := rfl) (hr := rfl), ?_⟩; simp (maxSteps := 4000000) only [go_sem]) | (refine ⟨_, .lent (hf := h2) (hd := rfl) (hr := rfl), ?_⟩; simp (maxSteps := 4000000) only [go_sem]) | (refine ⟨_, .given (hf := h1) (hd := rfl) (ha := rfl), ?_⟩; simp (maxSteps := 4000000) only [go_sem]) | (refine ⟨_, .given (hf := h2) (hd := rfl) (ha := rfl), ?_⟩; simp (maxSteps := 4000000) only [go_sem]))); refine hK _ ?_; clear hK K) | refine walkL_nil ?_ | refine walkL_ret ?_ | refine walkL_exit ?_ | refine blockA_here ?_ | refine blockA_other rfl ?_ | refine blockA_ret ?_ | refine blockA_normal ?_ | refine thenA_ret ?_ | refine thenA_exit ?_ | refine thenA_normal ?_)
  simp (maxSteps := 4000000) only [go_sem, exH, Hour.row]
def exF : List (List Hour) := [[exH 10 20, exH 10 20, exH 10 20, exH 10 20, exH 30 60, exH 30 60], [exH 15 45, exH 15 45, exH 10 20, exH 10 20, exH 10 20, exH 10 20]]
theorem zf96 : Fn Tryz.prog 96 [] (.tup [.agg [.sl (scenRows exF)], .agg [.i 40, .i 0, .i (-5), .i 15], .agg [.i 1, .i 1, .i 40, .i 0, .i (-5), .i 15]]) := by
  have h99 := zf144 (-5) 15
  have a1 := zf143 10 20
  have a2 := zf143 30 60
  have a3 := zf143 15 45
  simp only [exH, Hour.row] at a1 a2 a3
  refine fn_walk 40 Tryz.call96 Tryz.func96 rfl (by decide) fun J => ?_
  simp (maxSteps := 4000000) only [go_sem, St.start, Tryz.ntmps96, Tryz.results96]
  repeat (first | refine walkL_seq ?_ | refine walkL_skip ?_ | refine walkL_block ?_ | (refine walkL_region fun K hK => ?_; simp (maxSteps := 4000000) only [go_sem]; (repeat (first | (refine ⟨_, .lent (hf := h99) (hd := rfl) (hr := rfl), ?_⟩; simp (maxSteps := 4000000) only [go_sem]) | (refine ⟨_, .given (hf := h99) (hd := rfl) (ha := rfl), ?_⟩; simp (maxSteps := 4000000) only [go_sem]))); refine hK _ ?_; clear hK K) | refine walkL_nil ?_ | refine walkL_ret ?_ | refine walkL_exit ?_ | refine blockA_here ?_ | refine blockA_other rfl ?_ | refine blockA_ret ?_ | refine blockA_normal ?_ | refine thenA_ret ?_ | refine thenA_exit ?_ | refine thenA_normal ?_)
  refine walkL_drawnR [19, 33] (by kernel_rfl) (by kernel_rfl) fun K hK => ?_
  simp (maxSteps := 4000000) only [go_sem]
  repeat (first | (refine ⟨_, .fn (hf := a1) (hd := rfl) (hr := .inl rfl), ?_⟩; simp (maxSteps := 4000000) only [go_sem]) | (refine ⟨_, .fn (hf := a2) (hd := rfl) (hr := .inl rfl), ?_⟩; simp (maxSteps := 4000000) only [go_sem]) | (refine ⟨_, .fn (hf := a3) (hd := rfl) (hr := .inl rfl), ?_⟩; simp (maxSteps := 4000000) only [go_sem]))
  refine ⟨by kernel_rfl, hK _ ?_⟩
  clear hK K
  repeat (first | refine walkL_seq ?_ | refine walkL_skip ?_ | refine walkL_block ?_ | (refine walkL_region fun K hK => ?_; simp (maxSteps := 4000000) only [go_sem]; refine hK _ ?_; clear hK K) | refine walkL_nil ?_ | refine walkL_ret ?_ | refine walkL_exit ?_ | refine blockA_here ?_ | refine blockA_other rfl ?_ | refine blockA_ret ?_ | refine blockA_normal ?_ | refine thenA_ret ?_ | refine thenA_exit ?_ | refine thenA_normal ?_)
  simp (maxSteps := 4000000) only [go_sem]
  rfl
def exP : Plant := ⟨exF, [], [0, 40, 80, 80, 40, 0], 1, 12, 50, 100, 150, 20, 50, 2, 9, [60, 60, 60, 60, 90, 90]⟩
theorem zf76 : Fn Tryz.prog 76 [] (.agg exP.cells) := by
  have h75 := zf96
  obtain ⟨F, hF⟩ : ∃ F, F = exF := ⟨_, rfl⟩
  rw [← hF] at h75
  have e : exP.cells = [.sl (scenRows F), .sl [], .sl [[.i 0], [.i 40], [.i 80], [.i 80], [.i 40], [.i 0]], .i 1, .i 12, .i 50, .i 100, .i 150, .i 20, .i 50, .i 2, .i 9, .sl [[.i 60], [.i 60], [.i 60], [.i 60], [.i 90], [.i 90]]] := by rw [hF]; rfl
  rw [e]
  refine fn_walk 14 Tryz.call76 Tryz.func76 rfl (by decide) fun J => ?_
  simp (maxSteps := 4000000) only [go_sem, St.start, Tryz.ntmps76, Tryz.results76]
  repeat (first | refine walkL_seq ?_ | refine walkL_skip ?_ | refine walkL_block ?_ | (refine walkL_region fun K hK => ?_; simp (maxSteps := 4000000) only [go_sem]; (repeat (first | (refine ⟨_, .lent (hf := h75) (hd := rfl) (hr := rfl), ?_⟩; simp (maxSteps := 4000000) only [go_sem]) | (refine ⟨_, .given (hf := h75) (hd := rfl) (ha := rfl), ?_⟩; simp (maxSteps := 4000000) only [go_sem]))); refine hK _ ?_; clear hK K) | refine walkL_nil ?_ | refine walkL_ret ?_ | refine walkL_exit ?_ | refine blockA_here ?_ | refine blockA_other rfl ?_ | refine blockA_ret ?_ | refine blockA_normal ?_ | refine thenA_ret ?_ | refine thenA_exit ?_ | refine thenA_normal ?_)
  simp (maxSteps := 4000000) only [go_sem]
end Go.Ab
namespace Go.Ab
open Go.RowKit Go.Proofs
set_option maxHeartbeats 8000000
set_option maxRecDepth 20000
attribute [local irreducible] WalkL Walk
def farL (F : List (List Hour)) : Bool := F.any fun l => decide ((l.length : Int) > 50)
def far5 (F : List (List Hour)) (seen : List Sight) : Bool :=
  (decide ((F.length : Int) > 8) || decide ((seen.length : Int) > 22)) || (farL F || (decide (foreF F = 0) && (decide ((F.length : Int) > 4) || decide (((hd0 F).length : Int) > 12))))
theorem foreF_vals (F : List (List Hour)) : foreF F = 0 ∨ foreF F = 50 := by
  unfold foreF
  split
  · exact Or.inr rfl
  · exact Or.inl rfl
theorem foreF_bad {F : List (List Hour)} (h : foreF F = 0) : badF F = false := by
  cases hb : badF F with
  | false => rfl
  | true => simp [foreF, hb] at h
theorem zf47 (F : List (List Hour)) (seen : List Sight) (hs : ForeSmall F) : Fn Tryz.prog 47 [.agg [.sl (scenRows F)], .sl (sightRows seen)] (.bool (far5 F seen)) := by
  have h1 := hs.scen
  have h86 := zf81 F hs
  cases q1 : decide ((F.length : Int) > 8)
  case true =>
    refine fn_walk 44 Tryz.call47 Tryz.func47 rfl (by decide) fun J => ?_
    simp (maxSteps := 4000000) only [go_sem, St.start, Tryz.ntmps47, Tryz.results47]
    repeat (first | refine walkL_true rfl ?_ | refine walkL_false rfl ?_ | refine walkL_seq ?_ | refine walkL_skip ?_ | refine walkL_block ?_ | (refine walkL_region fun K hK => ?_; simp (maxSteps := 4000000) only [go_sem, q1]; refine hK _ ?_; clear hK K) | refine walkL_nil ?_ | refine walkL_ret ?_ | refine walkL_exit ?_ | refine blockA_here ?_ | refine blockA_other rfl ?_ | refine blockA_ret ?_ | refine blockA_normal ?_ | refine thenA_ret ?_ | refine thenA_exit ?_ | refine thenA_normal ?_)
    simp (maxSteps := 4000000) only [go_sem, far5, q1]
  case false =>
  cases q2 : decide ((seen.length : Int) > 22)
  case true =>
    refine fn_walk 44 Tryz.call47 Tryz.func47 rfl (by decide) fun J => ?_
    simp (maxSteps := 4000000) only [go_sem, St.start, Tryz.ntmps47, Tryz.results47]
    repeat (first | refine walkL_true rfl ?_ | refine walkL_false rfl ?_ | refine walkL_seq ?_ | refine walkL_skip ?_ | refine walkL_block ?_ | (refine walkL_region fun K hK => ?_; simp (maxSteps := 4000000) only [go_sem, q1, q2]; refine hK _ ?_; clear hK K) | refine walkL_nil ?_ | refine walkL_ret ?_ | refine walkL_exit ?_ | refine blockA_here ?_ | refine blockA_other rfl ?_ | refine blockA_ret ?_ | refine blockA_normal ?_ | refine thenA_ret ?_ | refine thenA_exit ?_ | refine thenA_normal ?_)
    simp (maxSteps := 4000000) only [go_sem, far5, q1, q2]
  case false =>
  refine fn_walk 44 Tryz.call47 Tryz.func47 rfl (by decide) fun J => ?_
  simp (maxSteps := 4000000) only [go_sem, St.start, Tryz.ntmps47, Tryz.results47]
  repeat (first | refine walkL_true rfl ?_ | refine walkL_false rfl ?_ | refine walkL_seq ?_ | refine walkL_skip ?_ | refine walkL_block ?_ | (refine walkL_region fun K hK => ?_; simp (maxSteps := 4000000) only [go_sem, q1, q2]; refine hK _ ?_; clear hK K) | refine walkL_nil ?_ | refine walkL_ret ?_ | refine walkL_exit ?_ | refine blockA_here ?_ | refine blockA_other rfl ?_ | refine blockA_ret ?_ | refine blockA_normal ?_ | refine thenA_ret ?_ | refine thenA_exit ?_ | refine thenA_normal ?_)
  refine walkL_loopS (fun (i : Nat) => [(5, .d (.i i))]) (fun _ => []) (fun i => i ≤ F.length ∧ farL (F.take i) = false) (fun i => F.length - i) 0 ?_ ⟨Nat.zero_le _, rfl⟩ ?_
  · simp (maxSteps := 4000000) only [go_sem]
    refine weak_of [] ?_ ?_ rfl rfl <;> simp [lessT, lessM, lessB, AV.less]
  · intro i ⟨hi, hall⟩
    simp (maxSteps := 4000000) only [go_sem]
    repeat (first | refine walkL_seq ?_ | refine walkL_skip ?_ | refine walkL_block ?_ | (refine walkL_region fun K hK => ?_; simp (maxSteps := 4000000) only [go_sem]; refine hK _ ?_; clear hK K) | refine walkL_nil ?_ | refine walkL_ret ?_ | refine walkL_exit ?_ | refine blockA_here ?_ | refine blockA_other rfl ?_ | refine blockA_ret ?_ | refine blockA_normal ?_ | refine thenA_ret ?_ | refine thenA_exit ?_ | refine thenA_normal ?_)
    refine walkL_cond rfl (fun hb => ?_) (fun hb => ?_)
    · have hlt : i < F.length := by simpa using hb
      have hw : IntKind.i64.wrap ((i : Int) + 1) = ((i + 1 : Nat) : Int) := by rw [wr_small (by omega)]; simp
      obtain ⟨l, hx⟩ : ∃ l, F[i]? = some l := ⟨_, List.getElem?_eq_getElem hlt⟩
      have g1 := scenRows_at hx
      cases q3 : decide ((l.length : Int) > 50)
      · repeat (first | refine walkL_true rfl ?_ | refine walkL_false rfl ?_ | refine walkL_seq ?_ | refine walkL_skip ?_ | refine walkL_block ?_ | (refine walkL_region fun K hK => ?_; simp (maxSteps := 4000000) only [go_sem, g1, q3, hw]; refine hK _ ?_; clear hK K) | refine walkL_nil ?_ | refine walkL_ret ?_ | refine walkL_exit ?_ | refine blockA_here ?_ | refine blockA_other rfl ?_ | refine blockA_ret ?_ | refine blockA_normal ?_ | refine thenA_ret ?_ | refine thenA_exit ?_ | refine thenA_normal ?_)
        refine ⟨rfl, i + 1, ?_, ⟨hlt, any_take_succ hx hall q3⟩, by omega⟩
        refine weak_of [] ?_ ?_ rfl rfl <;> simp [lessT, lessM, lessB, AV.less]
      · have e : farL F = true := any_of_get hx q3
        repeat (first | refine walkL_true rfl ?_ | refine walkL_false rfl ?_ | refine walkL_seq ?_ | refine walkL_skip ?_ | refine walkL_block ?_ | (refine walkL_region fun K hK => ?_; simp (maxSteps := 4000000) only [go_sem, g1, q3]; refine hK _ ?_; clear hK K) | refine walkL_nil ?_ | refine walkL_ret ?_ | refine walkL_exit ?_ | refine blockA_here ?_ | refine blockA_other rfl ?_ | refine blockA_ret ?_ | refine blockA_normal ?_ | refine thenA_ret ?_ | refine thenA_exit ?_ | refine thenA_normal ?_)
        simp (maxSteps := 4000000) only [go_sem, far5, e]
    · have he : i = F.length := by (have : ¬ i < F.length := by simpa using hb); omega
      subst he
      rw [List.take_length] at hall
      rcases foreF_vals F with e0 | e0
      · rw [e0] at h86
        have hg := fore_iff.1 (foreF_bad e0)
        have h0 := headD_get (F := F) (by have := hg.scen; omega)
        have h71 := zf48 F _ h0
        change Fn Tryz.prog 48 _ (.i (hd0 F).length) at h71
        cases q4 : decide ((F.length : Int) > 4)
        · repeat (first | refine walkL_true rfl ?_ | refine walkL_false rfl ?_ | refine walkL_seq ?_ | refine walkL_skip ?_ | refine walkL_block ?_ | (refine walkL_region fun K hK => ?_; simp (maxSteps := 4000000) only [go_sem, q4]; (repeat (first | (refine ⟨_, .lent (hf := h86) (hd := rfl) (hr := rfl), ?_⟩; simp (maxSteps := 4000000) only [go_sem, q4]) | (refine ⟨_, .lent (hf := h71) (hd := rfl) (hr := rfl), ?_⟩; simp (maxSteps := 4000000) only [go_sem, q4]) | (refine ⟨_, .given (hf := h86) (hd := rfl) (ha := rfl), ?_⟩; simp (maxSteps := 4000000) only [go_sem, q4]) | (refine ⟨_, .given (hf := h71) (hd := rfl) (ha := rfl), ?_⟩; simp (maxSteps := 4000000) only [go_sem, q4]))); refine hK _ ?_; clear hK K) | refine walkL_nil ?_ | refine walkL_ret ?_ | refine walkL_exit ?_ | refine blockA_here ?_ | refine blockA_other rfl ?_ | refine blockA_ret ?_ | refine blockA_normal ?_ | refine thenA_ret ?_ | refine thenA_exit ?_ | refine thenA_normal ?_)
          simp (maxSteps := 4000000) only [go_sem, far5, q1, q2, hall, e0, q4]
        · repeat (first | refine walkL_true rfl ?_ | refine walkL_false rfl ?_ | refine walkL_seq ?_ | refine walkL_skip ?_ | refine walkL_block ?_ | (refine walkL_region fun K hK => ?_; simp (maxSteps := 4000000) only [go_sem, q4]; (repeat (first | (refine ⟨_, .lent (hf := h86) (hd := rfl) (hr := rfl), ?_⟩; simp (maxSteps := 4000000) only [go_sem, q4]) | (refine ⟨_, .lent (hf := h71) (hd := rfl) (hr := rfl), ?_⟩; simp (maxSteps := 4000000) only [go_sem, q4]) | (refine ⟨_, .given (hf := h86) (hd := rfl) (ha := rfl), ?_⟩; simp (maxSteps := 4000000) only [go_sem, q4]) | (refine ⟨_, .given (hf := h71) (hd := rfl) (ha := rfl), ?_⟩; simp (maxSteps := 4000000) only [go_sem, q4]))); refine hK _ ?_; clear hK K) | refine walkL_nil ?_ | refine walkL_ret ?_ | refine walkL_exit ?_ | refine blockA_here ?_ | refine blockA_other rfl ?_ | refine blockA_ret ?_ | refine blockA_normal ?_ | refine thenA_ret ?_ | refine thenA_exit ?_ | refine thenA_normal ?_)
          simp (maxSteps := 4000000) only [go_sem, far5, q1, q2, hall, e0, q4]
      · rw [e0] at h86
        repeat (first | refine walkL_true rfl ?_ | refine walkL_false rfl ?_ | refine walkL_seq ?_ | refine walkL_skip ?_ | refine walkL_block ?_ | (refine walkL_region fun K hK => ?_; simp (maxSteps := 4000000) only [go_sem]; (repeat (first | (refine ⟨_, .lent (hf := h86) (hd := rfl) (hr := rfl), ?_⟩; simp (maxSteps := 4000000) only [go_sem]) | (refine ⟨_, .given (hf := h86) (hd := rfl) (ha := rfl), ?_⟩; simp (maxSteps := 4000000) only [go_sem]))); refine hK _ ?_; clear hK K) | refine walkL_nil ?_ | refine walkL_ret ?_ | refine walkL_exit ?_ | refine blockA_here ?_ | refine blockA_other rfl ?_ | refine blockA_ret ?_ | refine blockA_normal ?_ | refine thenA_ret ?_ | refine thenA_exit ?_ | refine thenA_normal ?_)
        simp (maxSteps := 4000000) only [go_sem, far5, q1, q2, hall, e0]
def far10 (p : Plant) : Bool :=
  (far5 p.scen p.seen || (decide ((p.sun.length : Int) > 100) || decide ((p.needs.length : Int) > 100))) ||
  (decide (plantE p = 0) && (decide ((p.sun.length : Int) > 5) || (decide ((p.scen.length : Int) > 3) || decide (p.rate > 2))))
theorem zf29 (p : Plant) (hs : PlantSmall p) : Fn Tryz.prog 29 [.agg p.cells] (.bool (far10 p)) := by
  have h46 := zf47 p.scen p.seen hs.fore
  have h36 := zf30 p hs
  rw [Plant.cells] at h36
  obtain ⟨b, eb⟩ : ∃ b, b = far5 p.scen p.seen := ⟨_, rfl⟩
  rw [far10, ← eb]
  rw [← eb] at h46
  cases b
  case true =>
    refine fn_walk 41 Tryz.call29 Tryz.func29 rfl (by decide) fun J => ?_
    simp (maxSteps := 4000000) only [go_sem, St.start, Tryz.ntmps29, Tryz.results29, Plant.cells]
    repeat (first | refine walkL_true rfl ?_ | refine walkL_false rfl ?_ | refine walkL_seq ?_ | refine walkL_skip ?_ | refine walkL_block ?_ | (refine walkL_region fun K hK => ?_; simp (maxSteps := 4000000) only [go_sem]; (repeat (first | (refine ⟨_, .lent (hf := h46) (hd := rfl) (hr := rfl), ?_⟩; simp (maxSteps := 4000000) only [go_sem]) | (refine ⟨_, .given (hf := h46) (hd := rfl) (ha := rfl), ?_⟩; simp (maxSteps := 4000000) only [go_sem]))); refine hK _ ?_; clear hK K) | refine walkL_nil ?_ | refine walkL_ret ?_ | refine walkL_exit ?_ | refine blockA_here ?_ | refine blockA_other rfl ?_ | refine blockA_ret ?_ | refine blockA_normal ?_ | refine thenA_ret ?_ | refine thenA_exit ?_ | refine thenA_normal ?_)
    simp (maxSteps := 4000000) only [go_sem]
  case false =>
  cases q1 : decide ((p.sun.length : Int) > 100)
  case true =>
    refine fn_walk 41 Tryz.call29 Tryz.func29 rfl (by decide) fun J => ?_
    simp (maxSteps := 4000000) only [go_sem, St.start, Tryz.ntmps29, Tryz.results29, Plant.cells]
    repeat (first | refine walkL_true rfl ?_ | refine walkL_false rfl ?_ | refine walkL_seq ?_ | refine walkL_skip ?_ | refine walkL_block ?_ | (refine walkL_region fun K hK => ?_; simp (maxSteps := 4000000) only [go_sem, q1]; (repeat (first | (refine ⟨_, .lent (hf := h46) (hd := rfl) (hr := rfl), ?_⟩; simp (maxSteps := 4000000) only [go_sem, q1]) | (refine ⟨_, .given (hf := h46) (hd := rfl) (ha := rfl), ?_⟩; simp (maxSteps := 4000000) only [go_sem, q1]))); refine hK _ ?_; clear hK K) | refine walkL_nil ?_ | refine walkL_ret ?_ | refine walkL_exit ?_ | refine blockA_here ?_ | refine blockA_other rfl ?_ | refine blockA_ret ?_ | refine blockA_normal ?_ | refine thenA_ret ?_ | refine thenA_exit ?_ | refine thenA_normal ?_)
    simp (maxSteps := 4000000) only [go_sem]
  case false =>
  cases q2 : decide ((p.needs.length : Int) > 100)
  case true =>
    refine fn_walk 41 Tryz.call29 Tryz.func29 rfl (by decide) fun J => ?_
    simp (maxSteps := 4000000) only [go_sem, St.start, Tryz.ntmps29, Tryz.results29, Plant.cells]
    repeat (first | refine walkL_true rfl ?_ | refine walkL_false rfl ?_ | refine walkL_seq ?_ | refine walkL_skip ?_ | refine walkL_block ?_ | (refine walkL_region fun K hK => ?_; simp (maxSteps := 4000000) only [go_sem, q1, q2]; (repeat (first | (refine ⟨_, .lent (hf := h46) (hd := rfl) (hr := rfl), ?_⟩; simp (maxSteps := 4000000) only [go_sem, q1, q2]) | (refine ⟨_, .given (hf := h46) (hd := rfl) (ha := rfl), ?_⟩; simp (maxSteps := 4000000) only [go_sem, q1, q2]))); refine hK _ ?_; clear hK K) | refine walkL_nil ?_ | refine walkL_ret ?_ | refine walkL_exit ?_ | refine blockA_here ?_ | refine blockA_other rfl ?_ | refine blockA_ret ?_ | refine blockA_normal ?_ | refine thenA_ret ?_ | refine thenA_exit ?_ | refine thenA_normal ?_)
    simp (maxSteps := 4000000) only [go_sem]
  case false =>
  by_cases e0 : plantE p = 0
  · rw [e0] at h36 ⊢
    cases q3 : decide ((p.sun.length : Int) > 5) <;> cases q4 : decide ((p.scen.length : Int) > 3)
    all_goals
      refine fn_walk 41 Tryz.call29 Tryz.func29 rfl (by decide) fun J => ?_
      simp (maxSteps := 4000000) only [go_sem, St.start, Tryz.ntmps29, Tryz.results29, Plant.cells]
      repeat (first | refine walkL_true rfl ?_ | refine walkL_false rfl ?_ | refine walkL_seq ?_ | refine walkL_skip ?_ | refine walkL_block ?_ | (refine walkL_region fun K hK => ?_; simp (maxSteps := 4000000) only [go_sem, q1, q2, q3, q4]; (repeat (first | (refine ⟨_, .lent (hf := h46) (hd := rfl) (hr := rfl), ?_⟩; simp (maxSteps := 4000000) only [go_sem, q1, q2, q3, q4]) | (refine ⟨_, .lent (hf := h36) (hd := rfl) (hr := rfl), ?_⟩; simp (maxSteps := 4000000) only [go_sem, q1, q2, q3, q4]) | (refine ⟨_, .given (hf := h46) (hd := rfl) (ha := rfl), ?_⟩; simp (maxSteps := 4000000) only [go_sem, q1, q2, q3, q4]) | (refine ⟨_, .given (hf := h36) (hd := rfl) (ha := rfl), ?_⟩; simp (maxSteps := 4000000) only [go_sem, q1, q2, q3, q4]))); refine hK _ ?_; clear hK K) | refine walkL_nil ?_ | refine walkL_ret ?_ | refine walkL_exit ?_ | refine blockA_here ?_ | refine blockA_other rfl ?_ | refine blockA_ret ?_ | refine blockA_normal ?_ | refine thenA_ret ?_ | refine thenA_exit ?_ | refine thenA_normal ?_)
      simp (maxSteps := 4000000) only [go_sem]
  · have q : (plantE p == 0) = false := by simpa using e0
    rw [decide_eq_false e0]
    refine fn_walk 41 Tryz.call29 Tryz.func29 rfl (by decide) fun J => ?_
    simp (maxSteps := 4000000) only [go_sem, St.start, Tryz.ntmps29, Tryz.results29, Plant.cells]
    repeat (first | refine walkL_true rfl ?_ | refine walkL_false rfl ?_ | refine walkL_seq ?_ | refine walkL_skip ?_ | refine walkL_block ?_ | (refine walkL_region fun K hK => ?_; simp (maxSteps := 4000000) only [go_sem, q1, q2, q]; (repeat (first | (refine ⟨_, .lent (hf := h46) (hd := rfl) (hr := rfl), ?_⟩; simp (maxSteps := 4000000) only [go_sem, q1, q2, q]) | (refine ⟨_, .lent (hf := h36) (hd := rfl) (hr := rfl), ?_⟩; simp (maxSteps := 4000000) only [go_sem, q1, q2, q]) | (refine ⟨_, .given (hf := h46) (hd := rfl) (ha := rfl), ?_⟩; simp (maxSteps := 4000000) only [go_sem, q1, q2, q]) | (refine ⟨_, .given (hf := h36) (hd := rfl) (ha := rfl), ?_⟩; simp (maxSteps := 4000000) only [go_sem, q1, q2, q]))); refine hK _ ?_; clear hK K) | refine walkL_nil ?_ | refine walkL_ret ?_ | refine walkL_exit ?_ | refine blockA_here ?_ | refine blockA_other rfl ?_ | refine blockA_ret ?_ | refine blockA_normal ?_ | refine thenA_ret ?_ | refine thenA_exit ?_ | refine thenA_normal ?_)
    simp (maxSteps := 4000000) only [go_sem]
def validB (p : Plant) : Bool := !far10 p && decide (plantE p = 0)
def isBurnB (p : Plant) (l : List Int) : Bool := (l.all fun n => withinB n 0 p.rate) && (((l.length : Int) == p.sun.length) && decide (sumI l ≤ p.units))
theorem sumI_take_succ {l : List Int} {i : Nat} {x : Int} (h : l[i]? = some x) : sumI (l.take (i + 1)) = sumI (l.take i) + x := foldl_take_succ _ _ _ _ _ h
end Go.Ab
namespace Go.Ab
open Go.RowKit Go.Proofs
set_option maxHeartbeats 8000000
set_option maxRecDepth 20000
attribute [local irreducible] WalkL Walk
def skyB (s t : Sky) : Bool := (s.wind == t.wind) && ((s.rain == t.rain) && (s.temp == t.temp))
def inAt (l : List Hour) (m : List Sky) (j : Nat) : Bool := insideB (skyAt m j) (hourAt l (j : Int))
def inTo (l : List Hour) (m : List Sky) : Nat → Bool
  | 0 => true
  | k + 1 => inTo l m k && inAt l m k
def seenEq (seen : List Sight) (m : List Sky) : Bool := seen.all fun s => skyB (skyAt m s.hour.toNat) s.sky
def scenAt (F : List (List Hour)) (k : Int) : List Hour := F.getD k.toNat []
def weB (F : List (List Hour)) (seen : List Sight) (m : List Sky) : Bool :=
  ((m.length : Int) == (hd0 F).length) && (seenEq seen m && (numsOf (possL F seen)).any fun k => inTo (scenAt F k) m m.length)
end Go.Ab
namespace Go.Ab
open Go.RowKit Go.Proofs
set_option maxHeartbeats 8000000
set_option maxRecDepth 20000
attribute [local irreducible] WalkL Walk
end Go.Ab
namespace Go.Ab
open Go.RowKit Go.Proofs
set_option maxHeartbeats 4000000
set_option maxRecDepth 20000
structure PlantGood (p : Plant) : Prop where
  fore : ForeGood p.scen
  sights : sightsB (hd0 p.scen).length p.seen = true
  poss : possL p.scen p.seen ≠ []
  sun : p.sun.length = (hd0 p.scen).length
  needs : p.needs.length = (hd0 p.scen).length
  sunIn : ∀ x ∈ p.sun, 0 ≤ x ∧ x ≤ 10000
  needsIn : ∀ x ∈ p.needs, 0 ≤ x ∧ x ≤ 20000
  gain : 0 ≤ p.gain ∧ p.gain ≤ 100
  start : 0 ≤ p.start ∧ p.start ≤ p.stop ∧ p.stop ≤ 200
  capacity : 0 ≤ p.capacity ∧ p.capacity ≤ 100000
  charge : 0 ≤ p.charge ∧ p.charge ≤ p.capacity
  reserve : 0 ≤ p.reserve ∧ p.reserve ≤ p.capacity
  gas : 0 ≤ p.gas ∧ p.gas ≤ 10000
  rate : 0 ≤ p.rate ∧ p.rate ≤ 10
  units : 0 ≤ p.units ∧ p.units ≤ 200
theorem powerB_iff {H : Int} {l : List Int} : powerB H l = true ↔ (l.length : Int) = H ∧ ∀ x ∈ l, 0 ≤ x ∧ x ≤ 10000 := by
  unfold powerB
  rw [any_not, Bool.and_eq_true, beq_iff_eq, List.all_eq_true]
  exact and_congr Iff.rfl ⟨fun h x hx => within_iff.1 (h x hx), fun h x hx => within_iff.2 (h x hx)⟩
theorem plant_good {p : Plant} (h : plantE p = 0) : PlantGood p := by
  unfold plantE at h
  split at h
  · rename_i hlk
    obtain ⟨hg, hsi, hpn⟩ := look_zero hlk
    split at h
    · cases h
    · rename_i hb
      have hb := Bool.eq_false_iff.2 hb
      unfold plantBad at hb
      simp only [Bool.or_eq_false_iff, Bool.not_eq_false', decide_eq_false_iff_not] at hb
      obtain ⟨b1, b2, b3, b4, b5, b6, b7, b8, b9, b10, b11⟩ := hb
      have b1 := powerB_iff.1 b1
      have b2 := powerB_iff.1 b2
      have b3 := within_iff.1 b3
      have b4 := within_iff.1 b4
      have b6 := within_iff.1 b6
      have b7 := within_iff.1 b7
      have b8 := within_iff.1 b8
      have b9 := within_iff.1 b9
      have b10 := within_iff.1 b10
      have b11 := within_iff.1 b11
      unfold hoursOf at b1 b2
      exact ⟨hg, hsi, hpn, by omega, by omega, b1.2, fun x hx => by have := b2.2 x hx; omega, b3, ⟨b4.1, b4.2, by omega⟩, b6, b7, b8, b9, b10, b11⟩
  · rename_i hlk; exact absurd h hlk
theorem grid_good {p : Plant} (hg : PlantGood p) : ∃ H : Nat, GridOk (gridOf p) H ∧ (H : Int) = hoursOf p := by
  have hF := hg.fore.scen
  have hH := hg.fore.hours
  have h1 := hg.sun
  have h2 := hg.needs
  have hpl := possFrom_len p.seen p.scen 0
  refine ⟨(hd0 p.scen).length, ⟨rfl, hH, h1, h2, ⟨?_, ?_⟩, fun l hl => ?_, hg.rate, hg.units⟩, rfl⟩
  · simp only [gridOf, scensOf]
    intro e
    exact hg.poss (List.map_eq_nil_iff.1 e)
  · simp only [gridOf, scens_len, possL]
    omega
  · simp only [gridOf, scensOf] at hl
    obtain ⟨⟨k, l'⟩, hm, rfl⟩ := List.mem_map.1 hl
    obtain ⟨i, hi⟩ := List.getElem?_of_mem hm
    obtain ⟨l, _, hl2, hl3, _⟩ := poss_get p.scen 0 i k l' hi
    dsimp only
    rw [hl3, seenHours_len, hg.fore.len l (List.mem_of_getElem? hl2)]
theorem burn_iff {p : Plant} (hg : PlantGood p) (b : List Int) : burnB (gridOf p) b = isBurnB p b := by
  unfold burnB isBurnB gridOf hoursOf
  dsimp only
  rw [hg.sun]
theorem isBurn_iff {p : Plant} {b : List Int} : isBurnB p b = true ↔ (∀ x ∈ b, 0 ≤ x ∧ x ≤ p.rate) ∧ b.length = p.sun.length ∧ sumI b ≤ p.units := by
  unfold isBurnB
  rw [Bool.and_eq_true, Bool.and_eq_true, List.all_eq_true, beq_iff_eq, decide_eq_true_eq]
  refine and_congr ⟨fun h x hx => within_iff.1 (h x hx), fun h x hx => within_iff.2 (h x hx)⟩ (and_congr ⟨fun h => by omega, fun h => by omega⟩ Iff.rfl)
theorem open_burn {p : Plant} (h : plantE p = 0) {b : List Int} : openE p [b] = if isBurnB p b then 0 else 101 := by
  have hg := plant_good h
  rw [← openE_nil] at h
  unfold openE at h ⊢
  split at h
  · rename_i hlk
    rw [if_pos hlk]
    split at h
    · cases h
    · rename_i hb
      rw [if_neg hb]
      simp only [List.any_cons, List.any_nil, Bool.or_false]
      rw [burn_iff hg]
      cases isBurnB p b <;> rfl
  · rename_i hlk; exact absurd h hlk
theorem hourAt_set {l : List Hour} {i : Nat} {x : Hour} {j : Nat} (hi : i < l.length) : hourAt (l.set i x) (j : Int) = if i = j then x else hourAt l (j : Int) := by
  unfold hourAt
  rw [Int.toNat_natCast, List.getD_eq_getElem?_getD, List.getD_eq_getElem?_getD, List.getElem?_set]
  by_cases h : i = j
  · subst h; simp [hi]
  · simp [h]
theorem seenHours_at : ∀ {seen : List Sight} {l : List Hour} (j : Nat), (∀ s ∈ seen, 0 ≤ s.hour ∧ s.hour.toNat < l.length) → (seen.map (·.hour)).Nodup →
    (∀ s ∈ seen, s.hour = j → hourAt (seenHours seen l) (j : Int) = pointH s.sky) ∧ ((∀ s ∈ seen, s.hour ≠ j) → hourAt (seenHours seen l) (j : Int) = hourAt l (j : Int))
  | [], l, j, _, _ => ⟨fun s hs => by simp at hs, fun _ => rfl⟩
  | s :: seen, l, j, hr, hn => by
    have hs := hr s (by simp)
    simp only [List.map_cons, List.nodup_cons] at hn
    have ih := seenHours_at (seen := seen) (l := l.set s.hour.toNat (pointH s.sky)) j (fun x hx => by have := hr x (by simp [hx]); simpa using this) hn.2
    have e : seenHours (s :: seen) l = seenHours seen (l.set s.hour.toNat (pointH s.sky)) := rfl
    rw [e]
    constructor
    · intro x hx hj
      rcases List.mem_cons.1 hx with rfl | hx
      · have hno : ∀ y ∈ seen, y.hour ≠ j := fun y hy he => hn.1 (List.mem_map.2 ⟨y, hy, by rw [he, hj]⟩)
        rw [ih.2 hno, hourAt_set hs.2, if_pos (by omega)]
      · exact ih.1 x hx hj
    · intro hno
      have h1 := hno s (by simp)
      rw [ih.2 (fun y hy => hno y (by simp [hy])), hourAt_set hs.2, if_neg (by omega)]
theorem scens_mem {p : Plant} {l' : List Hour} : l' ∈ scensOf (possL p.scen p.seen) ↔ ∃ l ∈ p.scen, agreesB p.seen l = true ∧ l' = seenHours p.seen l := by
  unfold scensOf possL
  generalize hj : 0 = j
  clear hj
  induction p.scen generalizing j with
  | nil => simp [possFrom]
  | cons x F ih =>
    rw [possFrom]
    split
    · rename_i h
      rw [List.map_cons, List.mem_cons, ih]
      constructor
      · rintro (rfl | ⟨l, h1, h2⟩)
        · exact ⟨x, by simp, h, rfl⟩
        · exact ⟨l, by simp [h1], h2⟩
      · rintro ⟨l, h1, h2, h3⟩
        rcases List.mem_cons.1 h1 with rfl | h1
        · exact Or.inl h3
        · exact Or.inr ⟨l, h1, h2, h3⟩
    · rename_i h
      rw [ih]
      constructor
      · rintro ⟨l, h1, h2⟩
        exact ⟨l, by simp [h1], h2⟩
      · rintro ⟨l, h1, h2, h3⟩
        rcases List.mem_cons.1 h1 with rfl | h1
        · exact absurd h2 h
        · exact ⟨l, h1, h2, h3⟩
theorem sight_range {p : Plant} (hg : PlantGood p) {l : List Hour} (hl : l ∈ p.scen) : ∀ s ∈ p.seen, 0 ≤ s.hour ∧ s.hour.toNat < l.length := by
  intro s hs
  have h1 := (sights_spec hg.sights).1 s hs
  have h2 := hg.fore.len l hl
  omega
def SkyOk (s : Sky) : Prop := (0 ≤ s.wind ∧ s.wind ≤ 200) ∧ (0 ≤ s.rain ∧ s.rain ≤ 100)
def yieldI (p : Plant) (h : Int) (s : Sky) : Int := (getI p.sun h * (100 - s.rain)) / 100 + if withinB s.wind p.start p.stop then p.gain * s.wind else 0
theorem getI_in {l : List Int} {a b : Int} (h : ∀ x ∈ l, a ≤ x ∧ x ≤ b) (ha : a ≤ 0 ∧ 0 ≤ b) (i : Int) : a ≤ getI l i ∧ getI l i ≤ b := by
  unfold getI
  rw [List.getD_eq_getElem?_getD]
  cases hx : l[i.toNat]? with
  | none => exact ha
  | some x => exact h x (List.mem_of_getElem? hx)
theorem yield_eq {p : Plant} (hg : PlantGood p) {s : Sky} (hs : SkyOk s) (h : Int) : yieldW p h s = yieldI p h s ∧ 0 ≤ yieldI p h s ∧ yieldI p h s ≤ 30000 := by
  have h1 := getI_in hg.sunIn (by omega) h
  have hgain := hg.gain
  obtain ⟨⟨w1, w2⟩, r1, r2⟩ := hs
  have m1 : 0 ≤ getI p.sun h * (100 - s.rain) := Int.mul_nonneg h1.1 (by omega)
  have m2 : getI p.sun h * (100 - s.rain) ≤ 10000 * 100 := Int.mul_le_mul h1.2 (by omega) (by omega) (by omega)
  have g1 : 0 ≤ p.gain * s.wind := Int.mul_nonneg hgain.1 w1
  have g2 : p.gain * s.wind ≤ 100 * 200 := Int.mul_le_mul hgain.2 w2 w1 (by omega)
  have d : (getI p.sun h * (100 - s.rain)).tdiv 100 = (getI p.sun h * (100 - s.rain)) / 100 := Int.tdiv_eq_ediv_of_nonneg m1
  have e1 : wr (100 - s.rain) = 100 - s.rain := wr_small (by omega)
  have e2 : wr (getI p.sun h * (100 - s.rain)) = getI p.sun h * (100 - s.rain) := wr_small (by omega)
  have e3 : wr ((getI p.sun h * (100 - s.rain)).tdiv 100) = (getI p.sun h * (100 - s.rain)) / 100 := by rw [d]; exact wr_small (by omega)
  have e4 : wr (p.gain * s.wind) = p.gain * s.wind := wr_small (by omega)
  unfold yieldW yieldI
  rw [e1, e2, e3, e4]
  split
  · refine ⟨wr_small (by omega), by omega, by omega⟩
  · refine ⟨by omega, by omega, by omega⟩
theorem skyOk_of {s : Sky} {h : Hour} (h1 : insideB s h = true) (h2 : hourB h = true) : SkyOk s := by
  unfold insideB at h1
  unfold hourB orderedB at h2
  simp only [Bool.and_eq_true, within_iff, decide_eq_true_eq] at h1 h2
  unfold SkyOk
  omega
theorem all_eq {p : Plant} (hg : PlantGood p) {burn : List Int} (hb : isBurnB p burn = true) {m : List Sky} (hm : ∀ j < m.length, SkyOk (skyAt m j)) {lv : Int} {j : Nat} (hj : j < m.length)
    (hlv : -1000000 ≤ lv ∧ lv ≤ 100000) : allOf p burn m lv j = lv + yieldI p j (skyAt m j) + p.gas * getI burn j - getI p.needs j ∧ lv - 20000 ≤ lv + yieldI p j (skyAt m j) + p.gas * getI burn j - getI p.needs j ∧ lv + yieldI p j (skyAt m j) + p.gas * getI burn j - getI p.needs j ≤ 300000 := by
  obtain ⟨y1, y2, y3⟩ := yield_eq hg (hm j hj) (j : Int)
  obtain ⟨b1, _, _⟩ := isBurn_iff.1 hb
  have hgas := hg.gas
  have hrate := hg.rate
  have hb1 := getI_in b1 (by omega) (j : Int)
  have hn1 := getI_in hg.needsIn (by omega) (j : Int)
  have g1 : 0 ≤ p.gas * getI burn j := Int.mul_nonneg hgas.1 hb1.1
  have g2 : p.gas * getI burn j ≤ 10000 * 10 := Int.mul_le_mul hgas.2 (by omega) hb1.1 (by omega)
  unfold allOf
  rw [y1, show wr (p.gas * getI burn j) = p.gas * getI burn j from wr_small (by omega), show wr (lv + yieldI p j (skyAt m j)) = lv + yieldI p j (skyAt m j) from wr_small (by omega),
    show wr (lv + yieldI p j (skyAt m j) + p.gas * getI burn j) = lv + yieldI p j (skyAt m j) + p.gas * getI burn j from wr_small (by omega)]
  exact ⟨wr_small (by omega), by omega, by omega⟩
theorem lv_range {p : Plant} (hg : PlantGood p) {burn : List Int} (hb : isBurnB p burn = true) {m : List Sky} (hm : ∀ j < m.length, SkyOk (skyAt m j)) (hl : m.length ≤ 48) :
    ∀ k : Nat, k ≤ m.length → -(20000 * (k : Int)) ≤ lvAt p burn m k ∧ lvAt p burn m k ≤ p.capacity
  | 0, _ => by have := hg.charge; rw [lvAt]; omega
  | k + 1, hk => by
    have ih := lv_range hg hb hm hl k (by omega)
    have hc := hg.capacity
    obtain ⟨h1, h2, h3⟩ := all_eq hg hb hm (lv := lvAt p burn m k) (j := k) (by omega) (by omega)
    rw [lvAt, h1]
    omega
end Go.Ab
namespace Go.Ab
open Go.RowKit Go.Proofs
set_option maxHeartbeats 4000000
set_option maxRecDepth 20000
def levI (c cap : Int) (net : Nat → Int) : Nat → Int
  | 0 => c
  | k + 1 => min (levI c cap net k + net k) cap
theorem levI_mono {c c' cap : Int} {net net' : Nat → Int} (h : c ≤ c') : ∀ k, (∀ j < k, net j ≤ net' j) → levI c cap net k ≤ levI c' cap net' k
  | 0, _ => h
  | k + 1, hn => by
    have := levI_mono (cap := cap) h k (fun j hj => hn j (by omega))
    have := hn k (by omega)
    rw [levI, levI]
    omega
def pre (b : Nat → Int) : Nat → Int
  | 0 => 0
  | k + 1 => pre b k + b k
theorem levI_late {c cap gas : Int} {rest x y : Nat → Int} (hg : 0 ≤ gas) : ∀ k, (∀ j ≤ k, pre y j ≤ pre x j) →
    levI c cap (fun j => rest j + gas * x j) k ≤ levI c cap (fun j => rest j + gas * y j) k + gas * (pre x k - pre y k)
  | 0, _ => by simp [levI, pre]
  | k + 1, h => by
    have ih := levI_late (c := c) (cap := cap) (rest := rest) hg k (fun j hj => h j (by omega))
    have h1 := h (k + 1) (Nat.le_refl _)
    have h2 : 0 ≤ gas * (pre x (k + 1) - pre y (k + 1)) := Int.mul_nonneg hg (by omega)
    have h3 : gas * (pre x (k + 1) - pre y (k + 1)) = gas * (pre x k - pre y k) + gas * x k - gas * y k := by
      rw [pre, pre, show pre x k + x k - (pre y k + y k) = pre x k - pre y k + x k - y k by omega, Int.mul_sub, Int.mul_add]
    rw [levI, levI]
    omega
theorem lv_eq {p : Plant} (hg : PlantGood p) {burn : List Int} (hb : isBurnB p burn = true) {m : List Sky} (hm : ∀ j < m.length, SkyOk (skyAt m j)) (hl : m.length ≤ 48) :
    ∀ k : Nat, k ≤ m.length → lvAt p burn m k = levI p.charge p.capacity (fun j => yieldI p j (skyAt m j) - getI p.needs j + p.gas * getI burn j) k
  | 0, _ => rfl
  | k + 1, hk => by
    have ih := lv_eq hg hb hm hl k (by omega)
    have hr := lv_range hg hb hm hl k (by omega)
    have hc := hg.capacity
    obtain ⟨h1, _, _⟩ := all_eq hg hb hm (lv := lvAt p burn m k) (j := k) (by omega) (by omega)
    rw [lvAt, h1, levI, ← ih]
    omega
theorem hourB_iff {h : Hour} : hourB h = true ↔ (0 ≤ h.wind.lo ∧ h.wind.lo ≤ h.wind.hi ∧ h.wind.hi ≤ 200) ∧ (0 ≤ h.rain.lo ∧ h.rain.lo ≤ h.rain.hi ∧ h.rain.hi ≤ 100) ∧ (-50 ≤ h.temp.lo ∧ h.temp.lo ≤ h.temp.hi ∧ h.temp.hi ≤ 50) := by
  unfold hourB orderedB
  simp only [Bool.and_eq_true, decide_eq_true_eq]
theorem inside_iff {s : Sky} {h : Hour} : insideB s h = true ↔ (h.wind.lo ≤ s.wind ∧ s.wind ≤ h.wind.hi) ∧ (h.rain.lo ≤ s.rain ∧ s.rain ≤ h.rain.hi) ∧ (h.temp.lo ≤ s.temp ∧ s.temp ≤ h.temp.hi) := by
  unfold insideB
  simp only [Bool.and_eq_true, within_iff]
theorem worst_in {p : Plant} {h : Hour} (hh : hourB h = true) : insideB (worstW p h) h = true := by
  have h1 := hourB_iff.1 hh
  rw [inside_iff]
  unfold worstW
  dsimp only
  split <;> omega
theorem least_at {p : Plant} {l : List Hour} {j : Nat} (h : j < l.length) : skyAt (leastW p l) j = worstW p (hourAt l (j : Int)) := by
  unfold skyAt leastW hourAt
  rw [List.getD_eq_getElem?_getD, List.getElem?_map, List.getD_eq_getElem?_getD, Int.toNat_natCast, List.getElem?_eq_getElem h]
  rfl
theorem least_len (p : Plant) (l : List Hour) : (leastW p l).length = l.length := by simp [leastW]
theorem scen_ok {p : Plant} (hg : PlantGood p) {l : List Hour} (hl : l ∈ (gridOf p).scen) : l.length = p.sun.length ∧ ∀ j < l.length, hourB (hourAt l (j : Int)) = true := by
  obtain ⟨l0, h0, ha, rfl⟩ := scens_mem.1 hl
  have hlen := hg.fore.len l0 h0
  have hsun := hg.sun
  refine ⟨by rw [seenHours_len, hlen, hsun], fun j hj => ?_⟩
  rw [seenHours_len] at hj
  have hsp := sights_spec hg.sights
  have hsa := seenHours_at (seen := p.seen) (l := l0) j (sight_range hg h0) hsp.2.1
  by_cases hex : ∃ s ∈ p.seen, s.hour = (j : Int)
  · obtain ⟨s, hs, hj2⟩ := hex
    rw [hsa.1 s hs hj2]
    exact (hsp.1 s hs).2.2
  · rw [hsa.2 (fun s hs he => hex ⟨s, hs, he⟩)]
    exact hg.fore.hour l0 h0 _ (List.mem_of_getElem? (hourAt_get (i := (j : Int)) ⟨by omega, by omega⟩))
theorem least_skies {p : Plant} (hg : PlantGood p) {l : List Hour} (hl : l ∈ (gridOf p).scen) : ∀ j < (leastW p l).length, SkyOk (skyAt (leastW p l) j) := by
  intro j hj
  rw [least_len] at hj
  obtain ⟨h1, h2⟩ := scen_ok hg hl
  rw [least_at hj]
  exact skyOk_of (worst_in (h2 j hj)) (h2 j hj)
theorem grid_lens {p : Plant} (hg : PlantGood p) : (gridOf p).hours = p.sun.length ∧ 1 ≤ p.sun.length ∧ p.sun.length ≤ 48 := by
  have h1 := hg.fore.hours
  have h2 := hg.sun
  refine ⟨?_, by omega, by omega⟩
  show ((hd0 p.scen).length : Int) = _
  omega
theorem count_spec (q : Nat → Bool) : ∀ (k i : Nat), (∀ j, i ≤ j → j < countTo q k i → q j = true) ∧ (countTo q k i < i + k → q (countTo q k i) = false)
  | 0, i => by simp [countTo]; omega
  | k + 1, i => by
    rw [countTo]
    cases hq : q i with
    | false => exact ⟨fun j h1 h2 => by simp at h2; omega, fun _ => by simpa using hq⟩
    | true =>
      obtain ⟨h1, h2⟩ := count_spec q k (i + 1)
      rw [if_pos rfl]
      refine ⟨fun j hj1 hj2 => ?_, fun h => h2 (by omega)⟩
      rcases Nat.lt_or_ge i j with h | h
      · exact h1 j (by omega) hj2
      · rw [show j = i by omega]; exact hq
theorem lasts_spec (p : Plant) (burn : List Int) (m : List Sky) : lastsW p burn m ≤ m.length ∧ (∀ j < lastsW p burn m, p.reserve ≤ lvAt p burn m (j + 1)) ∧ (lastsW p burn m < m.length → lvAt p burn m (lastsW p burn m + 1) < p.reserve) := by
  have h1 := countTo_le (fun j => !decide (lvAt p burn m (j + 1) < p.reserve)) m.length 0
  obtain ⟨h2, h3⟩ := count_spec (fun j => !decide (lvAt p burn m (j + 1) < p.reserve)) m.length 0
  refine ⟨?_, fun j hj => ?_, fun h => ?_⟩
  · have := h1.2
    unfold lastsW
    omega
  · have := h2 j (Nat.zero_le _) hj
    simp at this
    exact this
  · have := h3 (by unfold lastsW at h; omega)
    unfold lastsW
    simpa using this
theorem lasts_ge {p : Plant} {burn : List Int} {m : List Sky} {k : Nat} (hk : k ≤ m.length) (h : ∀ j < k, p.reserve ≤ lvAt p burn m (j + 1)) : k ≤ lastsW p burn m := by
  obtain ⟨h1, _, h3⟩ := lasts_spec p burn m
  by_cases hlt : lastsW p burn m < k
  · have := h _ hlt
    have := h3 (by omega)
    omega
  · omega
theorem hard_le (g : Grid) (burn : List Int) : ∀ l ∈ g.scen, (hardF g burn).2 ≤ lastsW g.p burn (leastW g.p l) := by
  have key : ∀ (ls : List (List Hour)) (a : List Sky × Int), (ls.foldl (hardStep g.p burn) a).2 ≤ a.2 ∧ ∀ l ∈ ls, (ls.foldl (hardStep g.p burn) a).2 ≤ lastsW g.p burn (leastW g.p l) := by
    intro ls
    induction ls with
    | nil => intro a; exact ⟨Int.le_refl _, fun l h => by simp at h⟩
    | cons x xs ih =>
      intro a
      rw [List.foldl_cons]
      obtain ⟨h1, h2⟩ := ih (hardStep g.p burn a x)
      have h3 : (hardStep g.p burn a x).2 ≤ a.2 ∧ (hardStep g.p burn a x).2 ≤ lastsW g.p burn (leastW g.p x) := by
        unfold hardStep
        split
        · exact ⟨by dsimp only; omega, Int.le_refl _⟩
        · exact ⟨Int.le_refl _, by omega⟩
      refine ⟨by omega, fun l hl => ?_⟩
      rcases List.mem_cons.1 hl with rfl | hl
      · omega
      · exact h2 l hl
  exact (key g.scen _).2
def LastsAll (p : Plant) (burn : List Int) : Prop := ∀ l ∈ (gridOf p).scen, ∀ j < p.sun.length, p.reserve ≤ lvAt p burn (leastW p l) (j + 1)
theorem hard_all {p : Plant} (hg : PlantGood p) {burn : List Int} : (hardF (gridOf p) burn).2 = (gridOf p).hours ↔ LastsAll p burn := by
  obtain ⟨e, _, _⟩ := grid_lens hg
  obtain ⟨H, hgo, hH⟩ := grid_good hg
  have hHe : (gridOf p).hours = (H : Int) := hgo.hours
  constructor
  · intro h l hl j hj
    have h1 := hard_le (gridOf p) burn l hl
    have h2 := (lasts_spec p burn (leastW p l)).2.1
    refine h2 j ?_
    have : (gridOf p).p = p := rfl
    rw [this] at h1
    omega
  · intro h
    obtain ⟨h1, h2, l, hl, _, h4⟩ := hardF_range hgo burn
    have hpe : (gridOf p).p = p := rfl
    rw [hpe] at h4
    have h5 := lasts_ge (p := p) (burn := burn) (m := leastW p l) (k := p.sun.length) (by rw [least_len]; have := (scen_ok hg hl).1; omega) (h l hl)
    omega
def preB (b : List Int) (k : Nat) : Int := pre (fun j => getI b j) k
theorem pre_take (b : List Int) : ∀ k ≤ b.length, preB b k = sumI (b.take k)
  | 0, _ => by simp [preB, pre, sumI]
  | k + 1, h => by
    have hx : b[k]? = some (getI b k) := by
      unfold getI
      rw [Int.toNat_natCast, List.getD_eq_getElem?_getD, List.getElem?_eq_getElem (by omega)]
      rfl
    rw [sumI_take_succ hx, ← pre_take b k (by omega)]
    rfl
theorem pre_all (b : List Int) : preB b b.length = sumI b := by rw [pre_take b _ (Nat.le_refl _), List.take_length]
theorem getI_set {b : List Int} {k j : Nat} (hk : k < b.length) (x : Int) : getI (b.set k x) (j : Int) = if k = j then x else getI b (j : Int) := by
  unfold getI
  rw [Int.toNat_natCast, List.getD_eq_getElem?_getD, List.getD_eq_getElem?_getD, List.getElem?_set]
  by_cases h : k = j
  · subst h; simp [hk]
  · simp [h]
theorem pre_set {b : List Int} {k : Nat} (hk : k < b.length) : ∀ j, preB (b.set k (getI b (k : Int) + 1)) j = preB b j + if k < j then 1 else 0
  | 0 => by simp [preB, pre]
  | j + 1 => by
    have ih := pre_set hk j
    unfold preB at ih ⊢
    rw [pre, pre, ih, getI_set hk]
    by_cases h : k = j
    · subst h; simp; omega
    · rw [if_neg h]
      by_cases h2 : k < j
      · rw [if_pos h2, if_pos (by omega)]; omega
      · rw [if_neg h2, if_neg (by omega)]; omega
structure Step (p : Plant) (b : List Int) (u : Int) : Prop where
  len : b.length = p.sun.length
  rng : ∀ x ∈ b, 0 ≤ x ∧ x ≤ p.rate
  sum : sumI b = u
  top : u ≤ p.units
  zero : ∀ j : Nat, getI b (j : Int) ≠ 0 → (j : Int) ≤ (hardF (gridOf p) b).2
  late : ∀ c, isBurnB p c = true → LastsAll p c → ∀ j ≤ p.sun.length, preB b j ≤ preB c j
theorem Step.isBurn {p : Plant} {b : List Int} {u : Int} (h : Step p b u) : isBurnB p b = true :=
  isBurn_iff.2 ⟨h.rng, h.len, by have := h.sum; have := h.top; omega⟩
theorem down_spec (r : Int) (b : List Int) : ∀ k, (∀ j : Nat, (downF r b k) < (j : Int) → j < k → getI b (j : Int) = r)
  | 0 => fun j _ h => by omega
  | k + 1 => by
    intro j h1 h2
    rw [downF] at h1
    split at h1
    · rename_i he
      rcases Nat.lt_succ_iff_lt_or_eq.1 h2 with h | rfl
      · exact down_spec r b k j h1 h
      · exact he
    · omega
theorem lv_burn_mono {p : Plant} (hg : PlantGood p) {b c : List Int} (hb : isBurnB p b = true) (hc : isBurnB p c = true) (h : ∀ j : Nat, getI b (j : Int) ≤ getI c (j : Int)) {l : List Hour} (hl : l ∈ (gridOf p).scen) :
    ∀ k ≤ p.sun.length, lvAt p b (leastW p l) k ≤ lvAt p c (leastW p l) k := by
  intro k hk
  obtain ⟨_, _, h48⟩ := grid_lens hg
  obtain ⟨hll, hlh⟩ := scen_ok hg hl
  have hsk := least_skies hg hl
  have hlen := least_len p l
  rw [lv_eq hg hb hsk (by omega) k (by omega), lv_eq hg hc hsk (by omega) k (by omega)]
  refine levI_mono (Int.le_refl _) k fun j hj => ?_
  have := Int.mul_le_mul_of_nonneg_left (h j) hg.gas.1
  omega
theorem hard_mono {p : Plant} (hg : PlantGood p) {b c : List Int} (hb : isBurnB p b = true) (hc : isBurnB p c = true) (h : ∀ j : Nat, getI b (j : Int) ≤ getI c (j : Int)) :
    (hardF (gridOf p) b).2 ≤ (hardF (gridOf p) c).2 := by
  obtain ⟨H, hgo, hH⟩ := grid_good hg
  have hpe : (gridOf p).p = p := rfl
  obtain ⟨_, h2, l, hl, _, h4⟩ := hardF_range hgo c
  rw [hpe] at h4
  have h1 := hard_le (gridOf p) b l hl
  rw [hpe] at h1
  obtain ⟨s1, s2, _⟩ := lasts_spec p b (leastW p l)
  have hll := (scen_ok hg hl).1
  have hlen := least_len p l
  have : lastsW p b (leastW p l) ≤ lastsW p c (leastW p l) := lasts_ge (by omega) fun j hj => by
    have := s2 j hj
    have := lv_burn_mono hg hb hc h hl (j + 1) (by omega)
    omega
  omega
theorem late_more {p : Plant} (hg : PlantGood p) {b c : List Int} (hb : isBurnB p b = true) (hc : isBurnB p c = true) (hcl : LastsAll p c) {n : Nat} (hn : (hardF (gridOf p) b).2 = n) (hnH : n < p.sun.length)
    (hle : ∀ j ≤ p.sun.length, preB b j ≤ preB c j) : preB b (n + 1) < preB c (n + 1) := by
  obtain ⟨H, hgo, hH⟩ := grid_good hg
  have hpe : (gridOf p).p = p := rfl
  obtain ⟨_, h2, l, hl, _, h4⟩ := hardF_range hgo b
  rw [hpe] at h4
  obtain ⟨_, _, h48⟩ := grid_lens hg
  obtain ⟨hll, hlh⟩ := scen_ok hg hl
  have hsk := least_skies hg hl
  have hlen := least_len p l
  have hlast : lastsW p b (leastW p l) = n := by omega
  have s3 := (lasts_spec p b (leastW p l)).2.2 (by omega)
  rw [hlast] at s3
  have hcr := hcl l hl n hnH
  rw [lv_eq hg hb hsk (by omega) (n + 1) (by omega)] at s3
  rw [lv_eq hg hc hsk (by omega) (n + 1) (by omega)] at hcr
  have key := levI_late (c := p.charge) (cap := p.capacity) (gas := p.gas) (rest := fun j => yieldI p j (skyAt (leastW p l) j) - getI p.needs j) (x := fun j => getI c j) (y := fun j => getI b j) hg.gas.1 (n + 1) (fun j hj => hle j (by omega))
  have hlen1 := hle (n + 1) (by omega)
  unfold preB at hlen1 ⊢
  by_cases he : pre (fun j => getI b j) (n + 1) = pre (fun j => getI c j) (n + 1)
  · rw [he, Int.sub_self, Int.mul_zero] at key
    omega
  · omega
theorem pre_diff {r : Int} {b : Nat → Int} (h : ∀ j, b j ≤ r) : ∀ (d k : Nat), pre b (k + d) ≤ pre b k + d * r
  | 0, k => by simp
  | d + 1, k => by
    have := pre_diff h d k
    rw [show k + (d + 1) = (k + d) + 1 by omega, pre]
    have := h (k + d)
    rw [show ((d + 1 : Nat) : Int) * r = (d : Int) * r + r by rw [Int.natCast_add, Int.add_mul]; simp]
    omega
theorem pre_same {r : Int} {b : Nat → Int} : ∀ (d k : Nat), (∀ j, k ≤ j → j < k + d → b j = r) → pre b (k + d) = pre b k + d * r
  | 0, k, _ => by simp
  | d + 1, k, h => by
    have := pre_same d k (fun j h1 h2 => h j h1 (by omega))
    rw [show k + (d + 1) = (k + d) + 1 by omega, pre, h (k + d) (by omega) (by omega), this]
    rw [show ((d + 1 : Nat) : Int) * r = (d : Int) * r + r by rw [Int.natCast_add, Int.add_mul]; simp]
    omega
theorem pre_up {b : Nat → Int} (h : ∀ j, 0 ≤ b j) (k : Nat) : ∀ d : Nat, pre b k ≤ pre b (k + d)
  | 0 => Int.le_refl _
  | d + 1 => by
    have := pre_up h k d
    have := h (k + d)
    have e : pre b (k + (d + 1)) = pre b (k + d) + b (k + d) := rfl
    omega
theorem step_next {p : Plant} (hg : PlantGood p) {b : List Int} {u : Int} (h : Step p b u) {n : Nat} (hn : (hardF (gridOf p) b).2 = n) (hnH : n < p.sun.length) {k : Nat} (hk : downF p.rate b (n + 1) = k) (hu : u < p.units) :
    Step p (b.set k (getI b (k : Int) + 1)) (u + 1) := by
  obtain ⟨d1, d2, d3⟩ := downF_range p.rate b (n + 1)
  have d4 := down_spec p.rate b (n + 1)
  rw [hk] at d1 d2 d3 d4
  have d3 := d3 (by omega)
  have hkl : k < b.length := by rw [h.len]; omega
  have hbk := getI_in h.rng (by have := hg.rate; omega) (k : Int)
  have hlen : (b.set k (getI b (k : Int) + 1)).length = p.sun.length := by rw [List.length_set, h.len]
  have hrng : ∀ x ∈ b.set k (getI b (k : Int) + 1), 0 ≤ x ∧ x ≤ p.rate := fun x hx => by
    rcases List.mem_or_eq_of_mem_set hx with hx | rfl
    · exact h.rng x hx
    · omega
  have hsum : sumI (b.set k (getI b (k : Int) + 1)) = u + 1 := by
    rw [← pre_all, List.length_set, pre_set hkl, if_pos hkl, pre_all, h.sum]
  have hib : isBurnB p (b.set k (getI b (k : Int) + 1)) = true := isBurn_iff.2 ⟨hrng, hlen, by omega⟩
  have hmono := hard_mono hg h.isBurn hib (fun j => by
    rw [getI_set hkl]
    split
    · rename_i e; subst e; omega
    · omega)
  refine ⟨hlen, hrng, hsum, by omega, ?_, ?_⟩
  · intro j hj
    rw [getI_set hkl] at hj
    split at hj
    · omega
    · have := h.zero j hj
      omega
  · intro c hc hcl j hj
    have hle := h.late c hc hcl
    have hmore := late_more hg h.isBurn hc hcl hn hnH hle
    rw [pre_set hkl]
    by_cases hkj : k < j
    · rw [if_pos hkj]
      have hcr := (isBurn_iff.1 hc).1
      have hct : ∀ i : Nat, getI c (i : Int) ≤ p.rate := fun i => (getI_in hcr (by have := hg.rate; omega) (i : Int)).2
      have hc0 : ∀ i : Nat, 0 ≤ getI c (i : Int) := fun i => (getI_in hcr (by have := hg.rate; omega) (i : Int)).1
      unfold preB at hmore ⊢
      rcases Nat.lt_or_ge j (n + 2) with hjn | hjn
      · have e1 := pre_diff (b := fun i => getI c (i : Int)) hct (n + 1 - j) j
        have e2 := pre_same (b := fun i => getI b (i : Int)) (r := p.rate) (n + 1 - j) j (fun i h1 h2 => d4 i (by omega) (by omega))
        rw [show j + (n + 1 - j) = n + 1 by omega] at e1 e2
        omega
      · have e2 := pre_same (b := fun i => getI b (i : Int)) (r := 0) (j - (n + 1)) (n + 1) (fun i h1 h2 => by
          by_cases hne : getI b (i : Int) = 0
          · exact hne
          · have := h.zero i hne
            omega)
        have e1 := pre_up (b := fun i => getI c (i : Int)) hc0 (n + 1)
        have e1 := e1 (j - (n + 1))
        rw [show n + 1 + (j - (n + 1)) = j by omega] at e1 e2
        rw [Int.mul_zero] at e2
        omega
    · rw [if_neg hkj]
      have := hle j hj
      omega
theorem plan_end {p : Plant} (hg : PlantGood p) : ∀ (f : Nat) (b : List Int) (u : Int), Step p b u → f = (p.units - u).toNat + 1 →
    (∃ b' u', planF (gridOf p) f b u = some (b', u') ∧ Step p b' u' ∧ LastsAll p b') ∨ (planF (gridOf p) f b u = none ∧ ∀ c, isBurnB p c = true → ¬ LastsAll p c)
  | 0, _, _, _, h => by omega
  | f + 1, b, u, h, hf => by
    have hpe : (gridOf p).p = p := rfl
    obtain ⟨H, hgo, hH⟩ := grid_good hg
    obtain ⟨e, _, _⟩ := grid_lens hg
    obtain ⟨r1, r2, _⟩ := hardF_range hgo b
    have hHe : (gridOf p).hours = (H : Int) := hgo.hours
    rw [planF, hpe]
    by_cases hfin : (hardF (gridOf p) b).2 = (gridOf p).hours
    · rw [if_pos hfin]
      exact Or.inl ⟨b, u, rfl, h, (hard_all hg).1 hfin⟩
    · rw [if_neg hfin]
      obtain ⟨n, hn⟩ : ∃ n : Nat, (hardF (gridOf p) b).2 = n := ⟨(hardF (gridOf p) b).2.toNat, by omega⟩
      have hnH : n < p.sun.length := by omega
      rw [hn, Int.toNat_natCast]
      obtain ⟨d1, d2, d3⟩ := downF_range p.rate b (n + 1)
      have d4 := down_spec p.rate b (n + 1)
      have htop := h.top
      by_cases hstop : downF p.rate b (n + 1) < 0 ∨ u = p.units
      · rw [if_pos hstop]
        refine Or.inr ⟨rfl, fun c hc hcl => ?_⟩
        have hle := h.late c hc hcl
        have hmore := late_more hg h.isBurn hc hcl hn hnH hle
        have hcr := isBurn_iff.1 hc
        have hct : ∀ i : Nat, getI c (i : Int) ≤ p.rate := fun i => (getI_in hcr.1 (by have := hg.rate; omega) (i : Int)).2
        have hc0 : ∀ i : Nat, 0 ≤ getI c (i : Int) := fun i => (getI_in hcr.1 (by have := hg.rate; omega) (i : Int)).1
        rcases hstop with hs | hs
        · have e1 := pre_diff (b := fun i => getI c (i : Int)) hct (n + 1) 0
          have e2 := pre_same (b := fun i => getI b (i : Int)) (r := p.rate) (n + 1) 0 (fun i h1 h2 => d4 i (by omega) (by omega))
          unfold preB at hmore
          rw [Nat.zero_add] at e1 e2
          simp only [pre] at e1 e2 hmore
          omega
        · have e2 := pre_same (b := fun i => getI b (i : Int)) (r := 0) (p.sun.length - (n + 1)) (n + 1) (fun i h1 h2 => by
            by_cases hne : getI b (i : Int) = 0
            · exact hne
            · have := h.zero i hne
              omega)
          have e1 := pre_up (b := fun i => getI c (i : Int)) hc0 (n + 1)
          have e1 := e1 (p.sun.length - (n + 1))
          rw [show n + 1 + (p.sun.length - (n + 1)) = p.sun.length by omega] at e1 e2
          have t1 := pre_all b
          have t2 := pre_all c
          have := h.sum
          rw [h.len] at t1
          rw [hcr.2.1] at t2
          unfold preB at hmore t1 t2
          rw [Int.mul_zero] at e2
          omega
      · rw [if_neg hstop]
        obtain ⟨k, hk⟩ : ∃ k : Nat, downF p.rate b (n + 1) = k := ⟨(downF p.rate b (n + 1)).toNat, by omega⟩
        rw [hk, Int.toNat_natCast]
        exact plan_end hg f _ _ (step_next hg h hn hnH hk (by omega)) (by omega)
theorem step_zero {p : Plant} (hg : PlantGood p) : Step p (List.replicate p.sun.length 0) 0 := by
  have hget : ∀ j : Nat, getI (List.replicate p.sun.length 0) (j : Int) = 0 := fun j => by
    unfold getI
    rw [List.getD_eq_getElem?_getD, List.getElem?_replicate]
    split <;> rfl
  have hpre : ∀ j, preB (List.replicate p.sun.length 0) j = 0 := fun j => by
    induction j with
    | zero => rfl
    | succ j ih => unfold preB at ih ⊢; rw [pre, ih, hget]; rfl
  refine ⟨by simp, fun x hx => ?_, ?_, hg.units.1, fun j hj => absurd (hget j) hj, fun c hc _ j hj => ?_⟩
  · rw [List.eq_of_mem_replicate hx]
    have := hg.rate
    omega
  · rw [← pre_all, hpre]
  · rw [hpre]
    have hcr := (isBurn_iff.1 hc).1
    clear hj
    unfold preB
    induction j with
    | zero => exact Int.le_refl _
    | succ j ih =>
      rw [pre]
      have := getI_in hcr (by have := hg.rate; omega) (j : Int)
      omega
theorem planG_spec {p : Plant} (hg : PlantGood p) :
    (∃ b u, planG (gridOf p) = some (b, u) ∧ Step p b u ∧ LastsAll p b) ∨ (planG (gridOf p) = none ∧ ∀ c, isBurnB p c = true → ¬ LastsAll p c) := by
  have e1 : planG (gridOf p) = planF (gridOf p) ((p.units - 0).toNat + 1) (List.replicate p.sun.length 0) 0 := by
    obtain ⟨e, _, _⟩ := grid_lens hg
    unfold planG
    rw [e, Int.toNat_natCast, Int.sub_zero]
    rfl
  rw [e1]
  exact plan_end hg _ _ _ (step_zero hg) rfl
theorem plan_spec {p : Plant} (hg : PlantGood p) (hz : plantE p = 0) :
    (∃ b u, planP p = (b, u, 0) ∧ Step p b u ∧ LastsAll p b) ∨ (planP p = ([], 0, 3) ∧ ∀ c, isBurnB p c = true → ¬ LastsAll p c) := by
  unfold planP
  rw [openE_nil, if_pos hz]
  rcases planG_spec hg with ⟨b, u, h1, h2, h3⟩ | ⟨h1, h2⟩
  · rw [h1]
    exact Or.inl ⟨b, u, rfl, h2, h3⟩
  · rw [h1]
    exact Or.inr ⟨rfl, h2⟩
end Go.Ab
namespace Go.Ab
open Go.RowKit Go.Proofs
set_option maxHeartbeats 4000000
set_option maxRecDepth 20000
attribute [local irreducible] WalkL Walk
structure Limits where
  wind : Int
  rain : Int
  temp : Span
def Limits.row (l : Limits) : List DV := [.i l.wind, .i l.rain, .i l.temp.lo, .i l.temp.hi]
def limB (l : Limits) : Bool := withinB l.wind 0 200 && (withinB l.rain 0 100 && orderedB l.temp (-50) 50)
theorem zf69 (l : Limits) : Fn Tryz.prog 69 [.agg l.row] (.bool (limB l)) := by
  have h1 := zf101 l.wind 0 200
  have h2 := zf101 l.rain 0 100
  have h3 := zf107 l.temp (-50) 50
  rw [Span.row] at h3
  obtain ⟨b1, e1⟩ : ∃ b, b = withinB l.wind 0 200 := ⟨_, rfl⟩
  obtain ⟨b2, e2⟩ : ∃ b, b = withinB l.rain 0 100 := ⟨_, rfl⟩
  obtain ⟨b3, e3⟩ : ∃ b, b = orderedB l.temp (-50) 50 := ⟨_, rfl⟩
  rw [limB, ← e1, ← e2, ← e3]
  rw [← e1] at h1
  rw [← e2] at h2
  rw [← e3] at h3
  refine fn_walk 16 Tryz.call69 Tryz.func69 rfl (by decide) fun J => ?_
  simp (maxSteps := 4000000) only [go_sem, St.start, Tryz.ntmps69, Tryz.results69, Limits.row]
  cases b1 <;> cases b2
  all_goals
    repeat (first | refine walkL_seq ?_ | refine walkL_skip ?_ | refine walkL_block ?_ | (refine walkL_region fun K hK => ?_; simp (maxSteps := 4000000) only [go_sem]; (repeat (first | (refine ⟨_, .lent (hf := h1) (hd := rfl) (hr := rfl), ?_⟩; simp (maxSteps := 4000000) only [go_sem]) | (refine ⟨_, .lent (hf := h2) (hd := rfl) (hr := rfl), ?_⟩; simp (maxSteps := 4000000) only [go_sem]) | (refine ⟨_, .lent (hf := h3) (hd := rfl) (hr := rfl), ?_⟩; simp (maxSteps := 4000000) only [go_sem]) | (refine ⟨_, .given (hf := h1) (hd := rfl) (ha := rfl), ?_⟩; simp (maxSteps := 4000000) only [go_sem]) | (refine ⟨_, .given (hf := h2) (hd := rfl) (ha := rfl), ?_⟩; simp (maxSteps := 4000000) only [go_sem]) | (refine ⟨_, .given (hf := h3) (hd := rfl) (ha := rfl), ?_⟩; simp (maxSteps := 4000000) only [go_sem]))); refine hK _ ?_; clear hK K) | refine walkL_nil ?_ | refine walkL_ret ?_ | refine walkL_exit ?_ | refine blockA_here ?_ | refine blockA_other rfl ?_ | refine blockA_ret ?_ | refine blockA_normal ?_ | refine thenA_ret ?_ | refine thenA_exit ?_ | refine thenA_normal ?_)
    simp (maxSteps := 4000000) only [go_sem]
theorem zf185 (l : Limits) : Fn Tryz.prog 185 [.agg l.row] (.bool (limB l)) := by
  have h1 := zf145 l.wind 0 200
  have h2 := zf145 l.rain 0 100
  have h3 := zf202 l.temp (-50) 50
  rw [Span.row] at h3
  obtain ⟨b1, e1⟩ : ∃ b, b = withinB l.wind 0 200 := ⟨_, rfl⟩
  obtain ⟨b2, e2⟩ : ∃ b, b = withinB l.rain 0 100 := ⟨_, rfl⟩
  obtain ⟨b3, e3⟩ : ∃ b, b = orderedB l.temp (-50) 50 := ⟨_, rfl⟩
  rw [limB, ← e1, ← e2, ← e3]
  rw [← e1] at h1
  rw [← e2] at h2
  rw [← e3] at h3
  refine fn_walk 19 Tryz.call185 Tryz.func185 rfl (by decide) fun J => ?_
  simp (maxSteps := 4000000) only [go_sem, St.start, Tryz.ntmps185, Tryz.results185, Limits.row]
  cases b1 <;> cases b2
  all_goals
    repeat (first | refine walkL_seq ?_ | refine walkL_skip ?_ | refine walkL_block ?_ | (refine walkL_region fun K hK => ?_; simp (maxSteps := 4000000) only [go_sem]; (repeat (first | (refine ⟨_, .lent (hf := h1) (hd := rfl) (hr := rfl), ?_⟩; simp (maxSteps := 4000000) only [go_sem]) | (refine ⟨_, .lent (hf := h2) (hd := rfl) (hr := rfl), ?_⟩; simp (maxSteps := 4000000) only [go_sem]) | (refine ⟨_, .lent (hf := h3) (hd := rfl) (hr := rfl), ?_⟩; simp (maxSteps := 4000000) only [go_sem]) | (refine ⟨_, .given (hf := h1) (hd := rfl) (ha := rfl), ?_⟩; simp (maxSteps := 4000000) only [go_sem]) | (refine ⟨_, .given (hf := h2) (hd := rfl) (ha := rfl), ?_⟩; simp (maxSteps := 4000000) only [go_sem]) | (refine ⟨_, .given (hf := h3) (hd := rfl) (ha := rfl), ?_⟩; simp (maxSteps := 4000000) only [go_sem]))); refine hK _ ?_; clear hK K) | refine walkL_nil ?_ | refine walkL_ret ?_ | refine walkL_exit ?_ | refine blockA_here ?_ | refine blockA_other rfl ?_ | refine blockA_ret ?_ | refine blockA_normal ?_ | refine thenA_ret ?_ | refine thenA_exit ?_ | refine thenA_normal ?_)
    simp (maxSteps := 4000000) only [go_sem]
def limE (l : Limits) : Int := if limB l then 0 else 52
theorem zf147 (l : Limits) : Fn Tryz.prog 147 [.agg l.row] (.i (limE l)) := by
  have h := zf185 l
  unfold limE
  obtain ⟨b, eb⟩ : ∃ b, b = limB l := ⟨_, rfl⟩
  rw [← eb] at h ⊢
  rw [Limits.row] at h
  cases b
  all_goals
    refine fn_walk 6 Tryz.call147 Tryz.func147 rfl (by decide) fun J => ?_
    simp (maxSteps := 4000000) only [go_sem, St.start, Tryz.ntmps147, Tryz.results147, Limits.row]
    repeat (first | refine walkL_true rfl ?_ | refine walkL_false rfl ?_ | refine walkL_seq ?_ | refine walkL_skip ?_ | refine walkL_block ?_ | (refine walkL_region fun K hK => ?_; simp (maxSteps := 4000000) only [go_sem]; (repeat (first | (refine ⟨_, .lent (hf := h) (hd := rfl) (hr := rfl), ?_⟩; simp (maxSteps := 4000000) only [go_sem]) | (refine ⟨_, .given (hf := h) (hd := rfl) (ha := rfl), ?_⟩; simp (maxSteps := 4000000) only [go_sem]))); refine hK _ ?_; clear hK K) | refine walkL_nil ?_ | refine walkL_ret ?_ | refine walkL_exit ?_ | refine blockA_here ?_ | refine blockA_other rfl ?_ | refine blockA_ret ?_ | refine blockA_normal ?_ | refine thenA_ret ?_ | refine thenA_exit ?_ | refine thenA_normal ?_)
    simp (maxSteps := 4000000) only [go_sem]
def keptB (s : Sky) (l : Limits) : Bool := decide (s.wind ≤ l.wind) && (decide (s.rain ≤ l.rain) && withinB s.temp l.temp.lo l.temp.hi)
def alwaysB (l : Limits) (h : Hour) : Bool := decide (h.wind.hi ≤ l.wind) && (decide (h.rain.hi ≤ l.rain) && (decide (l.temp.lo ≤ h.temp.lo) && decide (h.temp.hi ≤ l.temp.hi)))
def everB (l : Limits) (h : Hour) : Bool := decide (h.wind.lo ≤ l.wind) && (decide (h.rain.lo ≤ l.rain) && decide (max l.temp.lo h.temp.lo ≤ min l.temp.hi h.temp.hi))
theorem zf112 (l : Limits) (h : Hour) : Fn Tryz.prog 112 [.agg l.row, .agg h.row] (.bool (alwaysB l h)) := by
  refine fn_walk 41 Tryz.call112 Tryz.func112 rfl (by decide) fun J => ?_
  simp (maxSteps := 4000000) only [go_sem, St.start, Tryz.ntmps112, Tryz.results112, Limits.row, Hour.row]
  cases q1 : decide (h.wind.hi ≤ l.wind) <;> cases q2 : decide (h.rain.hi ≤ l.rain) <;> cases q3 : decide (l.temp.lo ≤ h.temp.lo)
  all_goals
    repeat (first | refine walkL_seq ?_ | refine walkL_skip ?_ | refine walkL_block ?_ | (refine walkL_region fun K hK => ?_; simp (maxSteps := 4000000) only [go_sem, q1, q2, q3]; refine hK _ ?_; clear hK K) | refine walkL_nil ?_ | refine walkL_ret ?_ | refine walkL_exit ?_ | refine blockA_here ?_ | refine blockA_other rfl ?_ | refine blockA_ret ?_ | refine blockA_normal ?_ | refine thenA_ret ?_ | refine thenA_exit ?_ | refine thenA_normal ?_)
    simp (maxSteps := 4000000) only [go_sem, alwaysB, q1, q2, q3]
theorem zf111 (l : Limits) (h : Hour) : Fn Tryz.prog 111 [.agg l.row, .agg h.row] (.bool (everB l h)) := by
  refine fn_walk 40 Tryz.call111 Tryz.func111 rfl (by decide) fun J => ?_
  simp (maxSteps := 4000000) only [go_sem, St.start, Tryz.ntmps111, Tryz.results111, Limits.row, Hour.row]
  cases q1 : decide (h.wind.lo ≤ l.wind) <;> cases q2 : decide (h.rain.lo ≤ l.rain)
  all_goals
    repeat (first | refine walkL_seq ?_ | refine walkL_skip ?_ | refine walkL_block ?_ | (refine walkL_region fun K hK => ?_; simp (maxSteps := 4000000) only [go_sem, q1, q2]; refine hK _ ?_; clear hK K) | refine walkL_nil ?_ | refine walkL_ret ?_ | refine walkL_exit ?_ | refine blockA_here ?_ | refine blockA_other rfl ?_ | refine blockA_ret ?_ | refine blockA_normal ?_ | refine thenA_ret ?_ | refine thenA_exit ?_ | refine thenA_normal ?_)
    simp (maxSteps := 4000000) only [go_sem, everB, q1, q2]
theorem zf149 (l : Limits) (hs : List Hour) (i : Nat) (h : Hour) (hi : hs[i]? = some h) : Fn Tryz.prog 149 [.sl (hourRows hs), .i i, .ptr l.row 0] (.bool (alwaysB l h)) := by
  have g1 := hourRows_at hi
  have h43 := zf112 l h
  rw [Limits.row, Hour.row] at h43
  refine fn_walk 12 Tryz.call149 Tryz.func149 rfl (by decide) fun J => ?_
  simp (maxSteps := 4000000) only [go_sem, St.start, Tryz.ntmps149, Tryz.results149, Limits.row]
  repeat (first | refine walkL_seq ?_ | refine walkL_skip ?_ | refine walkL_block ?_ | (refine walkL_region fun K hK => ?_; simp (maxSteps := 4000000) only [go_sem]; refine hK _ ?_; clear hK K) | refine walkL_nil ?_ | refine walkL_ret ?_ | refine walkL_exit ?_ | refine blockA_here ?_ | refine blockA_other rfl ?_ | refine blockA_ret ?_ | refine blockA_normal ?_ | refine thenA_ret ?_ | refine thenA_exit ?_ | refine thenA_normal ?_)
  refine walkL_drawn (by kernel_rfl) (by kernel_rfl) fun K hK => ?_
  simp (maxSteps := 4000000) only [go_sem, g1, Hour.row]
  refine ⟨_, .fn (hf := h43) (hd := rfl) (hr := .inr rfl), ?_⟩
  simp (maxSteps := 4000000) only [go_sem]
  refine ⟨by kernel_rfl, hK _ ?_⟩
  clear hK K
  repeat (first | refine walkL_seq ?_ | refine walkL_skip ?_ | refine walkL_block ?_ | (refine walkL_region fun K hK => ?_; simp (maxSteps := 4000000) only [go_sem]; refine hK _ ?_; clear hK K) | refine walkL_nil ?_ | refine walkL_ret ?_ | refine walkL_exit ?_ | refine blockA_here ?_ | refine blockA_other rfl ?_ | refine blockA_ret ?_ | refine blockA_normal ?_ | refine thenA_ret ?_ | refine thenA_exit ?_ | refine thenA_normal ?_)
  simp (maxSteps := 4000000) only [go_sem]
theorem zf151 (l : Limits) (hs : List Hour) (i : Nat) (h : Hour) (hi : hs[i]? = some h) : Fn Tryz.prog 151 [.sl (hourRows hs), .i i, .ptr l.row 0] (.bool (everB l h)) := by
  have g1 := hourRows_at hi
  have h46 := zf111 l h
  rw [Limits.row, Hour.row] at h46
  refine fn_walk 12 Tryz.call151 Tryz.func151 rfl (by decide) fun J => ?_
  simp (maxSteps := 4000000) only [go_sem, St.start, Tryz.ntmps151, Tryz.results151, Limits.row]
  repeat (first | refine walkL_seq ?_ | refine walkL_skip ?_ | refine walkL_block ?_ | (refine walkL_region fun K hK => ?_; simp (maxSteps := 4000000) only [go_sem]; refine hK _ ?_; clear hK K) | refine walkL_nil ?_ | refine walkL_ret ?_ | refine walkL_exit ?_ | refine blockA_here ?_ | refine blockA_other rfl ?_ | refine blockA_ret ?_ | refine blockA_normal ?_ | refine thenA_ret ?_ | refine thenA_exit ?_ | refine thenA_normal ?_)
  refine walkL_drawn (by kernel_rfl) (by kernel_rfl) fun K hK => ?_
  simp (maxSteps := 4000000) only [go_sem, g1, Hour.row]
  refine ⟨_, .fn (hf := h46) (hd := rfl) (hr := .inr rfl), ?_⟩
  simp (maxSteps := 4000000) only [go_sem]
  refine ⟨by kernel_rfl, hK _ ?_⟩
  clear hK K
  repeat (first | refine walkL_seq ?_ | refine walkL_skip ?_ | refine walkL_block ?_ | (refine walkL_region fun K hK => ?_; simp (maxSteps := 4000000) only [go_sem]; refine hK _ ?_; clear hK K) | refine walkL_nil ?_ | refine walkL_ret ?_ | refine walkL_exit ?_ | refine blockA_here ?_ | refine blockA_other rfl ?_ | refine blockA_ret ?_ | refine blockA_normal ?_ | refine thenA_ret ?_ | refine thenA_exit ?_ | refine thenA_normal ?_)
  simp (maxSteps := 4000000) only [go_sem]
def hullS (a b : Span) : Span := ⟨min a.lo b.lo, max a.hi b.hi⟩
theorem zf146 (a b : Span) : Fn Tryz.prog 146 [.agg a.row, .agg b.row] (.agg (hullS a b).row) := by
  refine fn_walk 16 Tryz.call146 Tryz.func146 rfl (by decide) fun J => ?_
  simp (maxSteps := 4000000) only [go_sem, St.start, Tryz.ntmps146, Tryz.results146, Span.row]
  repeat (first | refine walkL_seq ?_ | refine walkL_skip ?_ | refine walkL_block ?_ | (refine walkL_region fun K hK => ?_; simp (maxSteps := 4000000) only [go_sem]; refine hK _ ?_; clear hK K) | refine walkL_nil ?_ | refine walkL_ret ?_ | refine walkL_exit ?_ | refine blockA_here ?_ | refine blockA_other rfl ?_ | refine blockA_ret ?_ | refine blockA_normal ?_ | refine thenA_ret ?_ | refine thenA_exit ?_ | refine thenA_normal ?_)
  simp (maxSteps := 4000000) only [go_sem, hullS, Span.row]
end Go.Ab
namespace Go.Ab
open Go.RowKit Go.Proofs
set_option maxHeartbeats 4000000
set_option maxRecDepth 20000
attribute [local irreducible] WalkL Walk
def hullH (a b : Hour) : Hour := ⟨hullS a.wind b.wind, hullS a.rain b.rain, hullS a.temp b.temp⟩
def hullAll (S : List (List Hour)) (h : Int) : Hour := S.foldl (fun o l => hullH o (hourAt l h)) (hourAt (hd0 S) h)
def rangeF (F : List (List Hour)) (seen : List Sight) (h : Int) : Hour × Int :=
  if lookF F seen 0 (withinB h 0 ((hd0 F).length - 1)) = 0 then (hullAll (scensOf (possL F seen)) h, 0) else (noHour, lookF F seen 0 (withinB h 0 ((hd0 F).length - 1)))
def atF (seen : List Sight) (l : List Hour) (h : Int) : Hour := match seen.find? (fun s => s.hour == h) with
  | some s => pointH s.sky
  | none => hourAt l h
theorem hull_step {S : List (List Hour)} {h : Int} {i : Nat} {l : List Hour} (hl : S[i]? = some l) (b : Hour) :
    (S.take (i + 1)).foldl (fun o l => hullH o (hourAt l h)) b = hullH ((S.take i).foldl (fun o l => hullH o (hourAt l h)) b) (hourAt l h) := foldl_take_succ _ _ _ _ _ hl
theorem zf97 (F : List (List Hour)) (seen : List Sight) (h : Int) (hs : ForeSmall F) (hsl : seen.length < 2 ^ 30) :
    Fn Tryz.prog 97 [.agg [.sl (scenRows F)], .sl (sightRows seen), .i h] (.tup [.agg (rangeF F seen h).1.row, .i (rangeF F seen h).2]) := by
  obtain ⟨t, ht⟩ : ∃ t, t = withinB h 0 ((hd0 F).length - 1) := ⟨_, rfl⟩
  have h39 := zf79 F seen 0 t hs hsl
  have h52 := zf145 h 0 ((hd0 F).length - 1)
  rw [← ht] at h52
  obtain ⟨e, he⟩ : ∃ e, e = lookF F seen 0 t := ⟨_, rfl⟩
  have hr : rangeF F seen h = if e = 0 then (hullAll (scensOf (possL F seen)) h, 0) else (noHour, e) := by rw [he, ht]; rfl
  rw [hr]
  rw [← he] at h39
  have hF := hs.scen
  -- how many hours there are
  have hhd : (hd0 F).length < 2 ^ 30 := by
    cases F with
    | nil => simp [hd0]
    | cons a l => exact hs.hours a (by simp)
  have wH : IntKind.i64.wrap (((hd0 F).length : Int) - 1) = (hd0 F).length - 1 := wr_small (by omega)
  refine fn_walk 80 Tryz.call97 Tryz.func97 rfl (by decide) fun J => ?_
  simp (maxSteps := 4000000) only [go_sem, St.start, Tryz.ntmps97, Tryz.results97]
  repeat (first | refine walkL_seq ?_ | refine walkL_skip ?_ | refine walkL_block ?_ | (refine walkL_region fun K hK => ?_; simp (maxSteps := 4000000) only [go_sem]; refine hK _ ?_; clear hK K) | refine walkL_nil ?_ | refine walkL_ret ?_ | refine walkL_exit ?_ | refine blockA_here ?_ | refine blockA_other rfl ?_ | refine blockA_ret ?_ | refine blockA_normal ?_ | refine thenA_ret ?_ | refine thenA_exit ?_ | refine thenA_normal ?_)
  cases q1 : decide ((F.length : Int) > 0)
  · have hF0 : F = [] := by
      have := of_decide_eq_false q1
      exact List.length_eq_zero_iff.1 (by omega)
    subst hF0
    have he50 : e = 50 := he
    have h0 : ¬ e = 0 := by omega
    have wH1 : IntKind.i64.wrap (-1) = -1 := wr_small (by decide)
    have e2 : (((hd0 ([] : List (List Hour))).length : Int) - 1) = -1 := rfl
    rw [e2] at h52
    rw [if_neg h0] at h39
    have hz : (e != 0) = true := by simpa using h0
    repeat (first | refine walkL_true rfl ?_ | refine walkL_false rfl ?_ | refine walkL_seq ?_ | refine walkL_skip ?_ | refine walkL_block ?_ | (refine walkL_region fun K hK => ?_; simp (maxSteps := 4000000) only [go_sem, q1]; refine hK _ ?_; clear hK K) | refine walkL_nil ?_ | refine walkL_ret ?_ | refine walkL_exit ?_ | refine blockA_here ?_ | refine blockA_other rfl ?_ | refine blockA_ret ?_ | refine blockA_normal ?_ | refine thenA_ret ?_ | refine thenA_exit ?_ | refine thenA_normal ?_)
    refine walkL_drawn (by kernel_rfl) (by kernel_rfl) fun K hK => ?_
    simp (maxSteps := 4000000) only [go_sem, wH1]
    refine ⟨_, .fn (hf := h52) (hd := rfl) (hr := .inr rfl), ?_⟩
    simp (maxSteps := 4000000) only [go_sem]
    refine ⟨_, .fn (hf := h39) (hd := rfl) (hr := .inr rfl), ?_⟩
    simp (maxSteps := 4000000) only [go_sem]
    refine ⟨by kernel_rfl, hK _ ?_⟩
    clear hK K
    repeat (first | refine walkL_true rfl ?_ | refine walkL_false rfl ?_ | refine walkL_seq ?_ | refine walkL_skip ?_ | refine walkL_block ?_ | (refine walkL_region fun K hK => ?_; simp (maxSteps := 4000000) only [go_sem, hz]; refine hK _ ?_; clear hK K) | refine walkL_nil ?_ | refine walkL_ret ?_ | refine walkL_exit ?_ | refine blockA_here ?_ | refine blockA_other rfl ?_ | refine blockA_ret ?_ | refine blockA_normal ?_ | refine thenA_ret ?_ | refine thenA_exit ?_ | refine thenA_normal ?_)
    simp (maxSteps := 4000000) only [go_sem, noHour, Hour.row, if_neg h0]
    try rfl
  · have hg0 : (scenRows F)[0]? = some [.sl (hourRows (hd0 F))] := scenRows_at (headD_get (by have := of_decide_eq_true q1; omega))
    repeat (first | refine walkL_true rfl ?_ | refine walkL_false rfl ?_ | refine walkL_seq ?_ | refine walkL_skip ?_ | refine walkL_block ?_ | (refine walkL_region fun K hK => ?_; simp (maxSteps := 4000000) only [go_sem, q1, hg0]; refine hK _ ?_; clear hK K) | refine walkL_nil ?_ | refine walkL_ret ?_ | refine walkL_exit ?_ | refine blockA_here ?_ | refine blockA_other rfl ?_ | refine blockA_ret ?_ | refine blockA_normal ?_ | refine thenA_ret ?_ | refine thenA_exit ?_ | refine thenA_normal ?_)
    refine walkL_drawn (by kernel_rfl) (by kernel_rfl) fun K hK => ?_
    simp (maxSteps := 4000000) only [go_sem, wH]
    refine ⟨_, .fn (hf := h52) (hd := rfl) (hr := .inr rfl), ?_⟩
    simp (maxSteps := 4000000) only [go_sem]
    refine ⟨_, .fn (hf := h39) (hd := rfl) (hr := .inr rfl), ?_⟩
    simp (maxSteps := 4000000) only [go_sem]
    refine ⟨by kernel_rfl, hK _ ?_⟩
    clear hK K
    by_cases h0 : e = 0
    · rw [if_pos h0, lookV] at *
      have hz : (e != 0) = false := by simp [h0]
      rw [h0] at he
      obtain ⟨hgood, hsi, hne, hin⟩ : ForeGood F ∧ sightsB (hd0 F).length seen = true ∧ possL F seen ≠ [] ∧ t = true := by
        unfold lookF at he
        cases hb : badF F
        · cases hq : sightsB (hd0 F).length seen
          · rw [hb, hq] at he; simp at he
          · cases t
            · rw [hb, hq] at he; simp at he
            · refine ⟨fore_iff.1 hb, rfl, ?_, rfl⟩
              intro hc
              rw [hb, hq, hc] at he
              simp at he
        · rw [hb] at he; simp at he
      rw [hin] at ht
      have hwi := within_iff.1 ht.symm
      obtain ⟨S, hS⟩ : ∃ S, S = scensOf (possL F seen) := ⟨_, rfl⟩
      rw [← hS]
      have hlen : ∀ l ∈ S, h.toNat < l.length := fun l hl => by
        rw [hS] at hl
        obtain ⟨x, hx, rfl⟩ := List.mem_map.1 hl
        obtain ⟨k, hk⟩ := List.getElem?_of_mem hx
        obtain ⟨l0, _, hl0, e1, _⟩ := poss_get F 0 k x.1 x.2 hk
        rw [e1, seenHours_len, hgood.len l0 (List.mem_of_getElem? hl0)]
        omega
      have hSne : S ≠ [] := fun hc => hne (by rw [hS] at hc; exact List.map_eq_nil_iff.1 hc)
      have hSl : S.length ≤ F.length := by rw [hS, scensOf, List.length_map]; exact possFrom_len _ _ _
      obtain ⟨s0, hs0⟩ : ∃ s0, S[0]? = some s0 := by
        cases S with
        | nil => exact absurd rfl hSne
        | cons a l => exact ⟨a, rfl⟩
      have ehd : hd0 S = s0 := by
        cases S with
        | nil => exact absurd rfl hSne
        | cons a l => simp at hs0; subst hs0; rfl
      have g0 := scenRows_at hs0
      have k0 := hwi.1
      have g1 := hourRows_at (hourAt_get (l := s0) (i := h) ⟨hwi.1, hlen s0 (List.mem_of_getElem? hs0)⟩)
      have hall : hullAll S h = S.foldl (fun o l => hullH o (hourAt l h)) (hourAt s0 h) := by unfold hullAll; rw [ehd]
      rw [hall]
      obtain ⟨b0, hb0⟩ : ∃ b0, b0 = hourAt s0 h := ⟨_, rfl⟩
      rw [← hb0] at g1 ⊢
      repeat (first | refine walkL_true rfl ?_ | refine walkL_false rfl ?_ | refine walkL_seq ?_ | refine walkL_skip ?_ | refine walkL_block ?_ | (refine walkL_region fun K hK => ?_; simp (maxSteps := 4000000) only [go_sem, hz, g0, g1, k0, Hour.row]; refine hK _ ?_; clear hK K) | refine walkL_nil ?_ | refine walkL_ret ?_ | refine walkL_exit ?_ | refine blockA_here ?_ | refine blockA_other rfl ?_ | refine blockA_ret ?_ | refine blockA_normal ?_ | refine thenA_ret ?_ | refine thenA_exit ?_ | refine thenA_normal ?_)
      refine walkL_loopS (fun (i : Nat) => [(54, .d (.i i)), (13, .undef), (14, .undef)]) (fun i => [(11, some (.box (((S.take i).foldl (fun o l => hullH o (hourAt l h)) b0).row.map AV.d)))]) (fun i => i ≤ S.length) (fun i => S.length - i) 0 ?_ (Nat.zero_le _) ?_
      · simp (maxSteps := 4000000) only [go_sem, Hour.row, List.take_zero, List.foldl_nil, List.map_cons, List.map_nil]
        refine weak_of [] ?_ ?_ rfl rfl <;> simp [lessT, lessM, lessB, AV.less]
        all_goals first | done | rfl
      · intro i hi
        obtain ⟨o, ho⟩ : ∃ o, o = (S.take i).foldl (fun o l => hullH o (hourAt l h)) b0 := ⟨_, rfl⟩
        rw [← ho]
        simp (maxSteps := 4000000) only [go_sem, Hour.row, List.map_cons, List.map_nil]
        repeat (first | refine walkL_seq ?_ | refine walkL_skip ?_ | refine walkL_block ?_ | (refine walkL_region fun K hK => ?_; simp (maxSteps := 4000000) only [go_sem]; refine hK _ ?_; clear hK K) | refine walkL_nil ?_ | refine walkL_ret ?_ | refine walkL_exit ?_ | refine blockA_here ?_ | refine blockA_other rfl ?_ | refine blockA_ret ?_ | refine blockA_normal ?_ | refine thenA_ret ?_ | refine thenA_exit ?_ | refine thenA_normal ?_)
        refine walkL_cond rfl (fun hb => ?_) (fun hb => ?_)
        · have hlt : i < S.length := by simpa using hb
          have hw : IntKind.i64.wrap ((i : Int) + 1) = ((i + 1 : Nat) : Int) := by rw [wr_small (by omega)]; simp
          obtain ⟨l, hx⟩ : ∃ l, S[i]? = some l := ⟨_, List.getElem?_eq_getElem hlt⟩
          have g3 := scenRows_at hx
          have g4 := hourRows_at (hourAt_get (l := l) (i := h) ⟨hwi.1, hlen l (List.mem_of_getElem? hx)⟩)
          have hst := hull_step (h := h) hx b0
          rw [← ho] at hst
          obtain ⟨y, hy⟩ : ∃ y, y = hourAt l h := ⟨_, rfl⟩
          rw [← hy] at g4 hst
          have c1 := zf146 o.wind y.wind
          have c2 := zf146 o.rain y.rain
          have c3 := zf146 o.temp y.temp
          rw [Span.row, Span.row, Span.row] at c1 c2 c3
          repeat (first | refine walkL_seq ?_ | refine walkL_skip ?_ | refine walkL_block ?_ | (refine walkL_region fun K hK => ?_; simp (maxSteps := 4000000) only [go_sem, g3, g4, k0, Hour.row]; refine hK _ ?_; clear hK K) | refine walkL_nil ?_ | refine walkL_ret ?_ | refine walkL_exit ?_ | refine blockA_here ?_ | refine blockA_other rfl ?_ | refine blockA_ret ?_ | refine blockA_normal ?_ | refine thenA_ret ?_ | refine thenA_exit ?_ | refine thenA_normal ?_)
          refine walkL_drawn (by kernel_rfl) (by kernel_rfl) fun K hK => ?_
          simp (maxSteps := 4000000) only [go_sem]
          refine ⟨_, .fn (hf := c1) (hd := rfl) (hr := .inl rfl), ?_⟩
          simp (maxSteps := 4000000) only [go_sem]
          refine ⟨_, .fn (hf := c2) (hd := rfl) (hr := .inl rfl), ?_⟩
          simp (maxSteps := 4000000) only [go_sem]
          refine ⟨_, .fn (hf := c3) (hd := rfl) (hr := .inl rfl), ?_⟩
          simp (maxSteps := 4000000) only [go_sem]
          refine ⟨by kernel_rfl, hK _ ?_⟩
          clear hK K
          repeat (first | refine walkL_seq ?_ | refine walkL_skip ?_ | refine walkL_block ?_ | (refine walkL_region fun K hK => ?_; simp (maxSteps := 4000000) only [go_sem, hw]; refine hK _ ?_; clear hK K) | refine walkL_nil ?_ | refine walkL_ret ?_ | refine walkL_exit ?_ | refine blockA_here ?_ | refine blockA_other rfl ?_ | refine blockA_ret ?_ | refine blockA_normal ?_ | refine thenA_ret ?_ | refine thenA_exit ?_ | refine thenA_normal ?_)
          refine ⟨rfl, i + 1, ?_, hlt, by omega⟩
          rw [hst]
          refine weak_of [] ?_ ?_ rfl rfl <;> simp [lessT, lessM, lessB, AV.less]
          all_goals first | done | rfl | simp [hullH, Hour.row]
        · have he : i = S.length := by (have : ¬ i < S.length := by simpa using hb); omega
          subst he
          rw [List.take_length] at ho
          rw [← ho]
          repeat (first | refine walkL_seq ?_ | refine walkL_skip ?_ | refine walkL_block ?_ | (refine walkL_region fun K hK => ?_; simp (maxSteps := 4000000) only [go_sem]; refine hK _ ?_; clear hK K) | refine walkL_nil ?_ | refine walkL_ret ?_ | refine walkL_exit ?_ | refine blockA_here ?_ | refine blockA_other rfl ?_ | refine blockA_ret ?_ | refine blockA_normal ?_ | refine thenA_ret ?_ | refine thenA_exit ?_ | refine thenA_normal ?_)
          simp (maxSteps := 4000000) only [go_sem, h0]
    · rw [if_neg h0] at *
      have hz : (e != 0) = true := by simpa using h0
      repeat (first | refine walkL_true rfl ?_ | refine walkL_false rfl ?_ | refine walkL_seq ?_ | refine walkL_skip ?_ | refine walkL_block ?_ | (refine walkL_region fun K hK => ?_; simp (maxSteps := 4000000) only [go_sem, hz]; refine hK _ ?_; clear hK K) | refine walkL_nil ?_ | refine walkL_ret ?_ | refine walkL_exit ?_ | refine blockA_here ?_ | refine blockA_other rfl ?_ | refine blockA_ret ?_ | refine blockA_normal ?_ | refine thenA_ret ?_ | refine thenA_exit ?_ | refine thenA_normal ?_)
      simp (maxSteps := 4000000) only [go_sem, noHour, Hour.row, if_neg h0]
      try rfl
end Go.Ab
namespace Go.Ab
open Go.RowKit Go.Proofs
set_option maxHeartbeats 4000000
set_option maxRecDepth 20000
attribute [local irreducible] WalkL Walk
def boolRows (l : List Bool) : List (List DV) := l.map fun x => [.bool x]
theorem boolRows_len (l : List Bool) : (boolRows l).length = l.length := by simp [boolRows]
theorem boolRows_head (l : List Bool) : headIs 1 (boolRows l) = true := by cases l <;> rfl
def spanRows (l : List Span) : List (List DV) := l.map Span.row
theorem spanRows_len (l : List Span) : (spanRows l).length = l.length := by simp [spanRows]
theorem spanRows_at {l : List Span} {i : Nat} {x : Span} (h : l[i]? = some x) : (spanRows l)[i]? = some x.row := by simp [spanRows, h]
theorem spanRows_head (l : List Span) : headIs 2 (spanRows l) = true := by cases l <;> rfl
theorem spanRows_push (l : List Span) (x : Span) : spanRows (l ++ [x]) = spanRows l ++ [x.row] := by simp [spanRows]
theorem rowsFlat_bool (l : List Bool) : rowsFlat (boolRows l) := rowsFlat_map (by intro x d hd; simp at hd; subst hd; rfl) l
theorem rowsFlat_span (l : List Span) : rowsFlat (spanRows l) := rowsFlat_map (by intro x d hd; simp [Span.row] at hd; rcases hd with rfl | rfl <;> rfl) l
attribute [go_sem] boolRows_len boolRows_head spanRows_len spanRows_head
def beginsFrom (n : Int) : List Bool → Nat → Int → Int
  | [], _, _ => -1
  | b :: l, i, run => if (if b then run + 1 else 0) = n then (i : Int) + 1 - n else beginsFrom n l (i + 1) (if b then run + 1 else 0)
def beginsF (l : List Bool) (n : Int) : Int := beginsFrom n l 0 0
def addSpan (l : List Span) (i : Int) : List Span := match l.getLast? with
  | some s => if s.hi == i - 1 then l.dropLast ++ [⟨s.lo, i⟩] else l ++ [⟨i, i⟩]
  | none => [⟨i, i⟩]
def spansQ (q : Nat → Bool) : Nat → List Span
  | 0 => []
  | n + 1 => if q n then addSpan (spansQ q n) (n : Int) else spansQ q n
theorem spansQ_len (q : Nat → Bool) : ∀ n, (spansQ q n).length ≤ n
  | 0 => Nat.le_refl _
  | n + 1 => by
    have ih := spansQ_len q n
    rw [spansQ]
    split
    · unfold addSpan
      split
      · split
        · rename_i h _
          have : (spansQ q n) ≠ [] := fun hc => by rw [hc] at h; simp at h
          have := List.length_pos_iff.2 this
          simp
          omega
        · simp; omega
      · simp
    · omega
theorem last_split {α : Type} : ∀ (l : List α), l = [] ∨ ∃ a x, l = a ++ [x]
  | [] => .inl rfl
  | x :: l => .inr ⟨(x :: l).dropLast, (x :: l).getLast (by simp), (List.dropLast_concat_getLast (by simp)).symm⟩
theorem addSpan_app (A : List Span) (s : Span) (i : Int) : addSpan (A ++ [s]) i = if s.hi == i - 1 then A ++ [⟨s.lo, i⟩] else A ++ [s] ++ [⟨i, i⟩] := by
  unfold addSpan
  simp
theorem zf186 (n : Nat) (g : Nat) (caps : List DV) (q : Nat → Bool) (hq : ∀ i, i < n → Fn Tryz.prog g (.i i :: caps) (.bool (q i))) (hn : n < 2 ^ 30) : FnS Tryz.prog 186 [.i n, .fn g caps] 27 2 (spanRows (spansQ q n)) := by
  refine fnS_walk 45 Tryz.call186 Tryz.func186 rfl (by decide) fun J => ?_
  simp (maxSteps := 4000000) only [go_sem, St.start, Tryz.ntmps186, Tryz.results186]
  repeat (first | refine walkL_seq ?_ | refine walkL_skip ?_ | refine walkL_block ?_ | (refine walkL_region fun K hK => ?_; simp (maxSteps := 4000000) only [go_sem]; refine hK _ ?_; clear hK K) | refine walkL_nil ?_ | refine walkL_ret ?_ | refine walkL_exit ?_ | refine blockA_here ?_ | refine blockA_other rfl ?_ | refine blockA_ret ?_ | refine blockA_normal ?_ | refine thenA_ret ?_ | refine thenA_exit ?_ | refine thenA_normal ?_)
  refine walkL_loopS (fun (i : Nat) => [(8, .d (.i i)), (4, .own 19), (5, .undef), (6, .undef), (20, .undef), (25, .undef)]) (fun i => [(19, some (.arr 27 2 (spanRows (spansQ q i))))]) (fun i => i ≤ n) (fun i => n - i) 0 ?_ (Nat.zero_le _) ?_
  · simp (maxSteps := 4000000) only [go_sem]
    refine weak_of [19] ?_ ?_ rfl rfl <;> simp [lessT, lessM, lessB, AV.less]
    all_goals first | done | rfl
  · intro i hi
    simp (maxSteps := 4000000) only [go_sem]
    repeat (first | refine walkL_seq ?_ | refine walkL_skip ?_ | refine walkL_block ?_ | (refine walkL_region fun K hK => ?_; simp (maxSteps := 4000000) only [go_sem]; refine hK _ ?_; clear hK K) | refine walkL_nil ?_ | refine walkL_ret ?_ | refine walkL_exit ?_ | refine blockA_here ?_ | refine blockA_other rfl ?_ | refine blockA_ret ?_ | refine blockA_normal ?_ | refine thenA_ret ?_ | refine thenA_exit ?_ | refine thenA_normal ?_)
    refine walkL_cond rfl (fun hb => ?_) (fun hb => ?_)
    · have hlt : i < n := by simpa using hb
      have hw : IntKind.i64.wrap ((i : Int) + 1) = ((i + 1 : Nat) : Int) := by rw [wr_small (by omega)]; simp
      have hq1 := hq i hlt
      have hlen := spansQ_len q i
      have e1 : spansQ q (i + 1) = if q i then addSpan (spansQ q i) (i : Int) else spansQ q i := rfl
      obtain ⟨L, hL⟩ : ∃ L, L = spansQ q i := ⟨_, rfl⟩
      rw [← hL] at e1 hlen ⊢
      have wi : IntKind.i64.wrap ((i : Int) - 1) = (i : Int) - 1 := wr_small (by omega)
      have hn1 : L.length + 1 ≤ 549755813888 := by omega
      rcases last_split L with hLe | ⟨A, s, hLe⟩
      · subst hLe
        have e0 : (([] : List Span).length : Int) = 0 := rfl
        have wl : IntKind.i64.wrap (0 - 1) = -1 := wr_small (by decide)
        repeat (first | refine walkL_seq ?_ | refine walkL_skip ?_ | refine walkL_block ?_ | (refine walkL_region fun K hK => ?_; simp (maxSteps := 4000000) only [go_sem, wl]; refine hK _ ?_; clear hK K) | refine walkL_nil ?_ | refine walkL_ret ?_ | refine walkL_exit ?_ | refine blockA_here ?_ | refine blockA_other rfl ?_ | refine blockA_ret ?_ | refine blockA_normal ?_ | refine thenA_ret ?_ | refine thenA_exit ?_ | refine thenA_normal ?_)
        refine walkL_region fun K hK => ?_
        simp (maxSteps := 4000000) only [go_sem]
        refine ⟨_, .lent (hf := hq1) (hd := reify_caps _ _ _ _ rfl) (hr := rfl), ?_⟩
        simp (maxSteps := 4000000) only [go_sem]
        refine hK _ ?_
        clear hK K
        cases qi : q i
        · rw [qi] at e1
          simp only [Bool.false_eq_true, if_false] at e1
          repeat (first | refine walkL_true rfl ?_ | refine walkL_false rfl ?_ | refine walkL_seq ?_ | refine walkL_skip ?_ | refine walkL_block ?_ | (refine walkL_region fun K hK => ?_; simp (maxSteps := 4000000) only [go_sem, hw]; refine hK _ ?_; clear hK K) | refine walkL_nil ?_ | refine walkL_ret ?_ | refine walkL_exit ?_ | refine blockA_here ?_ | refine blockA_other rfl ?_ | refine blockA_ret ?_ | refine blockA_normal ?_ | refine thenA_ret ?_ | refine thenA_exit ?_ | refine thenA_normal ?_)
          refine ⟨rfl, i + 1, ?_, hlt, by omega⟩
          rw [e1]
          refine weak_of [] ?_ ?_ rfl rfl <;> simp [lessT, lessM, lessB, AV.less]
          all_goals first | done | rfl
        · rw [qi] at e1
          simp only [if_true] at e1
          have d0 : decide ((-1 : Int) ≥ 0) = false := by decide
          have e2 : addSpan [] (i : Int) = [⟨i, i⟩] := rfl
          rw [e2] at e1
          have e3 : spanRows [] = [] := rfl
          repeat (first | refine walkL_true rfl ?_ | refine walkL_false rfl ?_ | refine walkL_seq ?_ | refine walkL_skip ?_ | refine walkL_block ?_ | (refine walkL_region fun K hK => ?_; simp (maxSteps := 4000000) only [go_sem, d0, hw, hn1, e3, List.nil_append]; refine hK _ ?_; clear hK K) | refine walkL_nil ?_ | refine walkL_ret ?_ | refine walkL_exit ?_ | refine blockA_here ?_ | refine blockA_other rfl ?_ | refine blockA_ret ?_ | refine blockA_normal ?_ | refine thenA_ret ?_ | refine thenA_exit ?_ | refine thenA_normal ?_)
          refine ⟨rfl, i + 1, ?_, hlt, by omega⟩
          rw [e1]
          refine weak_of [] ?_ ?_ rfl rfl <;> simp [lessT, lessM, lessB, AV.less]
          all_goals first | done | rfl
      · have hAl : L.length = A.length + 1 := by rw [hLe]; simp
        have wl : IntKind.i64.wrap ((L.length : Int) - 1) = (A.length : Int) := by rw [wr_small (by omega)]; omega
        have g1 : (spanRows L)[A.length]? = some s.row := spanRows_at (by rw [hLe]; simp)
        have hA1 : A.length < L.length := by omega
        have d0 : decide ((A.length : Int) ≥ 0) = true := by simp
        repeat (first | refine walkL_seq ?_ | refine walkL_skip ?_ | refine walkL_block ?_ | (refine walkL_region fun K hK => ?_; simp (maxSteps := 4000000) only [go_sem, wl]; refine hK _ ?_; clear hK K) | refine walkL_nil ?_ | refine walkL_ret ?_ | refine walkL_exit ?_ | refine blockA_here ?_ | refine blockA_other rfl ?_ | refine blockA_ret ?_ | refine blockA_normal ?_ | refine thenA_ret ?_ | refine thenA_exit ?_ | refine thenA_normal ?_)
        refine walkL_region fun K hK => ?_
        simp (maxSteps := 4000000) only [go_sem]
        refine ⟨_, .lent (hf := hq1) (hd := reify_caps _ _ _ _ rfl) (hr := rfl), ?_⟩
        simp (maxSteps := 4000000) only [go_sem]
        refine hK _ ?_
        clear hK K
        cases qi : q i
        · rw [qi] at e1
          simp only [Bool.false_eq_true, if_false] at e1
          repeat (first | refine walkL_true rfl ?_ | refine walkL_false rfl ?_ | refine walkL_seq ?_ | refine walkL_skip ?_ | refine walkL_block ?_ | (refine walkL_region fun K hK => ?_; simp (maxSteps := 4000000) only [go_sem, hw]; refine hK _ ?_; clear hK K) | refine walkL_nil ?_ | refine walkL_ret ?_ | refine walkL_exit ?_ | refine blockA_here ?_ | refine blockA_other rfl ?_ | refine blockA_ret ?_ | refine blockA_normal ?_ | refine thenA_ret ?_ | refine thenA_exit ?_ | refine thenA_normal ?_)
          refine ⟨rfl, i + 1, ?_, hlt, by omega⟩
          rw [e1]
          refine weak_of [] ?_ ?_ rfl rfl <;> simp [lessT, lessM, lessB, AV.less]
          all_goals first | done | rfl
        · rw [qi] at e1
          simp only [if_true] at e1
          rw [hLe, addSpan_app] at e1
          cases q3 : (s.hi == (i : Int) - 1)
          · rw [q3] at e1
            simp only [Bool.false_eq_true, if_false] at e1
            rw [← hLe] at e1
            repeat (first | refine walkL_true rfl ?_ | refine walkL_false rfl ?_ | refine walkL_seq ?_ | refine walkL_skip ?_ | refine walkL_block ?_ | (refine walkL_region fun K hK => ?_; simp (maxSteps := 4000000) only [go_sem, d0, g1, hA1, Span.row, wi, q3, hw, hn1]; refine hK _ ?_; clear hK K) | refine walkL_nil ?_ | refine walkL_ret ?_ | refine walkL_exit ?_ | refine blockA_here ?_ | refine blockA_other rfl ?_ | refine blockA_ret ?_ | refine blockA_normal ?_ | refine thenA_ret ?_ | refine thenA_exit ?_ | refine thenA_normal ?_)
            refine ⟨rfl, i + 1, ?_, hlt, by omega⟩
            rw [e1, spanRows_push]
            refine weak_of [] ?_ ?_ rfl rfl <;> simp [lessT, lessM, lessB, AV.less]
            all_goals first | done | rfl
          · rw [q3] at e1
            simp only [if_true] at e1
            have e4 : (spanRows L).set A.length [.i s.lo, .i (i : Int)] = spanRows (A ++ [⟨s.lo, i⟩]) := by rw [hLe]; simp [spanRows, Span.row]
            repeat (first | refine walkL_true rfl ?_ | refine walkL_false rfl ?_ | refine walkL_seq ?_ | refine walkL_skip ?_ | refine walkL_block ?_ | (refine walkL_region fun K hK => ?_; simp (maxSteps := 4000000) only [go_sem, d0, g1, hA1, Span.row, wi, q3, hw, hn1]; refine hK _ ?_; clear hK K) | refine walkL_nil ?_ | refine walkL_ret ?_ | refine walkL_exit ?_ | refine blockA_here ?_ | refine blockA_other rfl ?_ | refine blockA_ret ?_ | refine blockA_normal ?_ | refine thenA_ret ?_ | refine thenA_exit ?_ | refine thenA_normal ?_)
            refine ⟨rfl, i + 1, ?_, hlt, by omega⟩
            rw [e1, ← e4]
            refine weak_of [] ?_ ?_ rfl rfl <;> simp [lessT, lessM, lessB, AV.less]
            all_goals first | done | rfl
    · have he : i = n := by (have : ¬ i < n := by simpa using hb); omega
      subst he
      repeat (first | refine walkL_seq ?_ | refine walkL_skip ?_ | refine walkL_block ?_ | (refine walkL_region fun K hK => ?_; simp (maxSteps := 4000000) only [go_sem]; refine hK _ ?_; clear hK K) | refine walkL_nil ?_ | refine walkL_ret ?_ | refine walkL_exit ?_ | refine blockA_here ?_ | refine blockA_other rfl ?_ | refine blockA_ret ?_ | refine blockA_normal ?_ | refine thenA_ret ?_ | refine thenA_exit ?_ | refine thenA_normal ?_)
      simp (maxSteps := 4000000) only [go_sem]
end Go.Ab
