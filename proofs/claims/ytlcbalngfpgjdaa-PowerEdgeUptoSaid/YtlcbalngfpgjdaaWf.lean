/- A walk engine over abstract states, and the contracts of the functions that the statement reaches: part 6. -/
import Derived.Test.YtlcbalngfpgjdaaWe
set_option linter.unusedVariables false
set_option linter.unusedSimpArgs false
namespace Go.Ab
open Go.RowKit Go.Proofs
set_option maxHeartbeats 8000000
set_option maxRecDepth 20000
attribute [local irreducible] WalkL Walk

/-! ### The document's Spare and Least -/

def updN (f : Int → Int) (l : List Int) (i : Nat) : List Int := (l.take i).map f ++ l.drop i
theorem updN_len (f : Int → Int) (l : List Int) (i : Nat) : (updN f l i).length = l.length := by simp [updN]; omega
theorem updN_get (f : Int → Int) {l : List Int} {i : Nat} {x : Int} (h : l[i]? = some x) : (updN f l i)[i]? = some x := by
  have hl := (List.getElem?_eq_some_iff.1 h).1
  unfold updN
  rw [List.getElem?_append_right (by rw [List.length_map, List.length_take]; omega)]
  simp only [List.length_map, List.length_take]
  rw [show i - min i l.length = 0 by omega, drop_get h]
  rfl
theorem updN_set (f : Int → Int) {l : List Int} {i : Nat} {x : Int} (h : l[i]? = some x) : (updN f l i).set i (f x) = updN f l (i + 1) := by
  have hl := (List.getElem?_eq_some_iff.1 h).1
  unfold updN
  rw [List.set_append_right _ _ (by rw [List.length_map, List.length_take]; omega)]
  simp only [List.length_map, List.length_take]
  rw [show i - min i l.length = 0 by omega, drop_get h, List.set_cons_zero, List.take_add_one, h]
  simp
theorem updN_zero (f : Int → Int) (l : List Int) : updN f l 0 = l := by simp [updN]
theorem updN_all (f : Int → Int) (l : List Int) : updN f l l.length = l.map f := by simp [updN]

theorem f59 (p : Plant) (m : Int) (hs : PlantSmall p) : Fn Try.prog 59 [.agg p.cells, .i m] (.agg (needsP p m).cells) := by
  have hn := hs.needs
  have h1 : p.needs.length ≤ 549755813888 := by omega
  obtain ⟨f, hf⟩ : ∃ f : Int → Int, f = fun n => wr (n + m) := ⟨_, rfl⟩
  have e0 : (needsP p m).cells = [.sl (scenRows p.scen), .sl (sightRows p.seen), .sl (intRows p.sun), .i p.gain, .i p.start, .i p.stop, .i p.charge, .i p.capacity, .i p.reserve, .i p.gas, .i p.rate, .i p.units, .sl (intRows (p.needs.map f))] := by rw [hf]; rfl
  rw [e0]
  refine fn_walk 27 Try.call59 Try.func59 rfl (by decide) fun J => ?_
  simp (maxSteps := 4000000) only [go_sem, St.start, Try.ntmps59, Try.results59, Plant.cells]
  repeat (first | refine walkL_seq ?_ | refine walkL_skip ?_ | refine walkL_block ?_ | (refine walkL_region fun K hK => ?_; simp (maxSteps := 4000000) only [go_sem, h1, List.nil_append]; refine hK _ ?_; clear hK K) | refine walkL_nil ?_ | refine walkL_ret ?_ | refine walkL_exit ?_ | refine blockA_here ?_ | refine blockA_other rfl ?_ | refine blockA_ret ?_ | refine blockA_normal ?_ | refine thenA_ret ?_ | refine thenA_exit ?_ | refine thenA_normal ?_)
  refine walkL_loopS (fun (i : Nat) => [(6, .d (.i i))]) (fun i => [(7, some (.arr 3 1 (intRows (updN f p.needs i))))]) (fun i => i ≤ p.needs.length) (fun i => p.needs.length - i) 0 ?_ (Nat.zero_le _) ?_
  · simp (maxSteps := 4000000) only [go_sem, updN_zero]
    refine weak_of [] ?_ ?_ rfl rfl <;> simp [lessT, lessM, lessB, AV.less]
    all_goals first | done | rfl | exact ⟨rfl, rfl⟩ | rw [updN_zero]
  · intro i hi
    simp (maxSteps := 4000000) only [go_sem, updN_len]
    repeat (first | refine walkL_seq ?_ | refine walkL_skip ?_ | refine walkL_block ?_ | (refine walkL_region fun K hK => ?_; simp (maxSteps := 4000000) only [go_sem, updN_len]; refine hK _ ?_; clear hK K) | refine walkL_nil ?_ | refine walkL_ret ?_ | refine walkL_exit ?_ | refine blockA_here ?_ | refine blockA_other rfl ?_ | refine blockA_ret ?_ | refine blockA_normal ?_ | refine thenA_ret ?_ | refine thenA_exit ?_ | refine thenA_normal ?_)
    refine walkL_cond rfl (fun hb => ?_) (fun hb => ?_)
    · have hlt : i < p.needs.length := by simpa using hb
      have hw : IntKind.i64.wrap ((i : Int) + 1) = ((i + 1 : Nat) : Int) := by rw [wr_small (by omega)]; simp
      obtain ⟨x, hx⟩ : ∃ x, p.needs[i]? = some x := ⟨_, List.getElem?_eq_getElem hlt⟩
      have g1 := intRows_at (updN_get f hx)
      have hfx : IntKind.i64.wrap (x + m) = f x := by rw [hf]
      repeat (first | refine walkL_seq ?_ | refine walkL_skip ?_ | refine walkL_block ?_ | (refine walkL_region fun K hK => ?_; simp (maxSteps := 4000000) only [go_sem, g1, hw, updN_len, hfx, hlt]; refine hK _ ?_; clear hK K) | refine walkL_nil ?_ | refine walkL_ret ?_ | refine walkL_exit ?_ | refine blockA_here ?_ | refine blockA_other rfl ?_ | refine blockA_ret ?_ | refine blockA_normal ?_ | refine thenA_ret ?_ | refine thenA_exit ?_ | refine thenA_normal ?_)
      refine ⟨rfl, i + 1, ?_, hlt, by omega⟩
      rw [← updN_set f hx, intRows_set]
      refine weak_of [] ?_ ?_ rfl rfl <;> simp [lessT, lessM, lessB, AV.less]
      all_goals first | done | rfl | exact ⟨rfl, rfl⟩
    · have he : i = p.needs.length := by (have : ¬ i < p.needs.length := by simpa using hb); omega
      subst he
      rw [updN_all]
      repeat (first | refine walkL_seq ?_ | refine walkL_skip ?_ | refine walkL_block ?_ | (refine walkL_region fun K hK => ?_; simp (maxSteps := 4000000) only [go_sem]; refine hK _ ?_; clear hK K) | refine walkL_nil ?_ | refine walkL_ret ?_ | refine walkL_exit ?_ | refine blockA_here ?_ | refine blockA_other rfl ?_ | refine blockA_ret ?_ | refine blockA_normal ?_ | refine thenA_ret ?_ | refine thenA_exit ?_ | refine thenA_normal ?_)
      simp (maxSteps := 4000000) only [go_sem]

theorem needs_zero {p : Plant} (h10 : ∀ x ∈ p.needs, 0 ≤ x ∧ x ≤ 10000) : needsP p 0 = p := by
  have : p.needs.map (fun n => wr (n + 0)) = p.needs := by
    refine (List.map_congr_left fun x hx => ?_).trans (List.map_id _)
    have := h10 x hx
    show wr (x + 0) = x
    rw [Int.add_zero]
    exact wr_small (by omega)
  unfold needsP
  rw [this]

theorem small_needs {p : Plant} (hs : PlantSmall p) (m : Int) : PlantSmall (needsP p m) := ⟨hs.fore, hs.seen, hs.sun, by simpa [needsP] using hs.needs⟩

theorem spareP_bad {p : Plant} (hz : plantE p ≠ 0) : spareP p = (0, plantE p) := by unfold spareP; rw [openE_nil, if_neg hz]
theorem leastP_bad {p : Plant} (hz : plantE p ≠ 0) : leastP p = (0, plantE p) := by unfold leastP; rw [openE_nil, if_neg hz]

theorem f27 (p : Plant) (hs : PlantSmall p) (hf : far10 p = false) : Fn Try.prog 27 [.agg p.cells] (.tup [.i (spareP p).1, .i (spareP p).2]) := by
  have h36 := f36 p hs
  by_cases hz : plantE p = 0
  · obtain ⟨hH, hr⟩ := far_small hf hz
    have hg := plant_good hz
    have h10 := needs_10 hz
    have hrate := hg.rate
    have hunits := hg.units
    have h47 := f47 p hH (by omega) p.sun.length [] p.units (by simp) (by omega)
    have h48 := f48 p hs hg
    change Fn Try.prog 47 _ (.sl (listRows (allP p))) at h47
    have hall := allP_burn hg
    have hlen : (allP p).length ≤ 3 ^ 5 := Nat.le_trans (burnsF_len (by omega) _ _ _ hunits.1) (Nat.pow_le_pow_right (by decide) hH)
    have hrl := rowsP_len hg
    have hrm := rowsP_mem hg
    have hnl := hg.needs
    have hsl := hg.sun
    have h58 : ∀ m, Fn Try.prog 58 [.agg (needsP p m).cells, .sl (listRows (allP p)), .sl (listRows (rowsP p))] (.bool ((allP p).any fun b => lastsR (needsP p m) b (rowsP p) == p.sun.length)) := fun m =>
      f58 (needsP p m) (allP p) (rowsP p) hs.sun (by omega) (by omega) (fun b hb r hr => by
        have h1 := hrm r hr
        have h2 := (isBurn_iff.1 (hall b hb)).2.1
        have h3 : (needsP p m).needs.length = p.needs.length := by simp [needsP]
        omega)
    have hany : ∀ m, 0 ≤ m → m ≤ 10000 → (((allP p).any fun b => lastsR (needsP p m) b (rowsP p) == p.sun.length) = true ↔ eN p m) := fun m h0 h1 =>
      any_iff hg (good_needs hg h10 ⟨h0, h1⟩) (fun _ => rfl) rfl rfl
    have h580 := h58 0
    have hany0 := hany 0 (by omega) (by omega)
    rw [needs_zero h10] at h580 hany0
    obtain ⟨S, hS⟩ : ∃ S, S = spareP p := ⟨_, rfl⟩
    have hsp := spare_spec hz
    rw [← hS] at hsp ⊢
    obtain ⟨L, hL⟩ : ∃ L, L = allP p := ⟨_, rfl⟩
    obtain ⟨R, hR⟩ : ∃ R, R = rowsP p := ⟨_, rfl⟩
    rw [← hL] at h47 h580 hany0
    rw [← hL, ← hR] at h58 hany
    rw [← hR] at h48 h580 hany0
    rw [hz] at h36
    rw [Plant.cells] at h36 h47 h48 h580
    have e0 : intRows [] = [] := rfl
    rw [e0] at h47
    have e1 : ∀ m, (needsP p m).cells = [.sl (scenRows p.scen), .sl (sightRows p.seen), .sl (intRows p.sun), .i p.gain, .i p.start, .i p.stop, .i p.charge, .i p.capacity, .i p.reserve, .i p.gas, .i p.rate, .i p.units, .sl (intRows (needsP p m).needs)] := fun m => rfl
    rcases hsp with ⟨rfl, hno⟩ | ⟨s, rfl, hs01, hes, hmax⟩
    · have q : (L.any fun b => lastsR p b R == p.sun.length) = false := by
        cases h : (L.any fun b => lastsR p b R == (p.sun.length : Int)) with
        | false => rfl
        | true => exact absurd (hany0.1 h) hno
      rw [q] at h580
      refine fn_walk 44 Try.call27 Try.func27 rfl (by decide) fun J => ?_
      simp (maxSteps := 4000000) only [go_sem, St.start, Try.ntmps27, Try.results27, Plant.cells]
      repeat (first | refine walkL_true rfl ?_ | refine walkL_false rfl ?_ | refine walkL_seq ?_ | refine walkL_skip ?_ | refine walkL_block ?_ | (refine walkL_region fun K hK => ?_; simp (maxSteps := 4000000) only [go_sem]; (repeat (first | (refine ⟨_, .lent (hf := h36) (hd := rfl) (hr := rfl), ?_⟩; simp (maxSteps := 4000000) only [go_sem]) | (refine ⟨_, .given (hf := h36) (hd := rfl) (ha := rfl), ?_⟩; simp (maxSteps := 4000000) only [go_sem]))); refine hK _ ?_; clear hK K) | refine walkL_nil ?_ | refine walkL_ret ?_ | refine walkL_exit ?_ | refine blockA_here ?_ | refine blockA_other rfl ?_ | refine blockA_ret ?_ | refine blockA_normal ?_ | refine thenA_ret ?_ | refine thenA_exit ?_ | refine thenA_normal ?_)
      refine walkL_drawn (by kernel_rfl) (by kernel_rfl) fun K hK => ?_
      simp (maxSteps := 4000000) only [go_sem]
      refine ⟨_, .fn (hf := h47) (hd := rfl) (hr := .inr rfl), ?_⟩
      simp (maxSteps := 4000000) only [go_sem]
      refine ⟨_, .fn (hf := h48) (hd := rfl) (hr := .inr rfl), ?_⟩
      simp (maxSteps := 4000000) only [go_sem]
      refine ⟨by kernel_rfl, hK _ ?_⟩
      clear hK K
      repeat (first | refine walkL_true rfl ?_ | refine walkL_false rfl ?_ | refine walkL_seq ?_ | refine walkL_skip ?_ | refine walkL_block ?_ | (refine walkL_region fun K hK => ?_; simp (maxSteps := 4000000) only [go_sem]; (repeat (first | (refine ⟨_, .lent (hf := h580) (hd := rfl) (hr := rfl), ?_⟩; simp (maxSteps := 4000000) only [go_sem]) | (refine ⟨_, .given (hf := h580) (hd := rfl) (ha := rfl), ?_⟩; simp (maxSteps := 4000000) only [go_sem]))); refine hK _ ?_; clear hK K) | refine walkL_nil ?_ | refine walkL_ret ?_ | refine walkL_exit ?_ | refine blockA_here ?_ | refine blockA_other rfl ?_ | refine blockA_ret ?_ | refine blockA_normal ?_ | refine thenA_ret ?_ | refine thenA_exit ?_ | refine thenA_normal ?_)
      simp (maxSteps := 4000000) only [go_sem]
    · have q := hany0.2 (eN_mono hz (Int.le_refl _) hs01.1 hs01.2 hes)
      rw [q] at h580
      refine fn_walk 44 Try.call27 Try.func27 rfl (by decide) fun J => ?_
      simp (maxSteps := 4000000) only [go_sem, St.start, Try.ntmps27, Try.results27, Plant.cells]
      repeat (first | refine walkL_true rfl ?_ | refine walkL_false rfl ?_ | refine walkL_seq ?_ | refine walkL_skip ?_ | refine walkL_block ?_ | (refine walkL_region fun K hK => ?_; simp (maxSteps := 4000000) only [go_sem]; (repeat (first | (refine ⟨_, .lent (hf := h36) (hd := rfl) (hr := rfl), ?_⟩; simp (maxSteps := 4000000) only [go_sem]) | (refine ⟨_, .given (hf := h36) (hd := rfl) (ha := rfl), ?_⟩; simp (maxSteps := 4000000) only [go_sem]))); refine hK _ ?_; clear hK K) | refine walkL_nil ?_ | refine walkL_ret ?_ | refine walkL_exit ?_ | refine blockA_here ?_ | refine blockA_other rfl ?_ | refine blockA_ret ?_ | refine blockA_normal ?_ | refine thenA_ret ?_ | refine thenA_exit ?_ | refine thenA_normal ?_)
      refine walkL_drawn (by kernel_rfl) (by kernel_rfl) fun K hK => ?_
      simp (maxSteps := 4000000) only [go_sem]
      refine ⟨_, .fn (hf := h47) (hd := rfl) (hr := .inr rfl), ?_⟩
      simp (maxSteps := 4000000) only [go_sem]
      refine ⟨_, .fn (hf := h48) (hd := rfl) (hr := .inr rfl), ?_⟩
      simp (maxSteps := 4000000) only [go_sem]
      refine ⟨by kernel_rfl, hK _ ?_⟩
      clear hK K
      repeat (first | refine walkL_true rfl ?_ | refine walkL_false rfl ?_ | refine walkL_seq ?_ | refine walkL_skip ?_ | refine walkL_block ?_ | (refine walkL_region fun K hK => ?_; simp (maxSteps := 4000000) only [go_sem]; (repeat (first | (refine ⟨_, .lent (hf := h580) (hd := rfl) (hr := rfl), ?_⟩; simp (maxSteps := 4000000) only [go_sem]) | (refine ⟨_, .given (hf := h580) (hd := rfl) (ha := rfl), ?_⟩; simp (maxSteps := 4000000) only [go_sem]))); refine hK _ ?_; clear hK K) | refine walkL_nil ?_ | refine walkL_ret ?_ | refine walkL_exit ?_ | refine blockA_here ?_ | refine blockA_other rfl ?_ | refine blockA_ret ?_ | refine blockA_normal ?_ | refine thenA_ret ?_ | refine thenA_exit ?_ | refine thenA_normal ?_)
      refine walkL_loopS (fun (a : Int × Int) => [(7, .d (.i a.1)), (8, .d (.i a.2)), (9, .undef)]) (fun _ => []) (fun a => 0 ≤ a.1 ∧ a.1 ≤ s ∧ s ≤ a.2 ∧ a.2 ≤ 10000) (fun a => (a.2 - a.1).toNat) (0, 10000) ?_ ⟨Int.le_refl _, hs01.1, hs01.2, Int.le_refl _⟩ ?_
      · simp (maxSteps := 4000000) only [go_sem]
        refine weak_of [] ?_ ?_ rfl rfl <;> simp [lessT, lessM, lessB, AV.less]
      · rintro ⟨lo, hi⟩ ⟨k1, k2, k3, k4⟩
        dsimp only at k1 k2 k3 k4
        simp (maxSteps := 4000000) only [go_sem]
        repeat (first | refine walkL_seq ?_ | refine walkL_skip ?_ | refine walkL_block ?_ | (refine walkL_region fun K hK => ?_; simp (maxSteps := 4000000) only [go_sem]; refine hK _ ?_; clear hK K) | refine walkL_nil ?_ | refine walkL_ret ?_ | refine walkL_exit ?_ | refine blockA_here ?_ | refine blockA_other rfl ?_ | refine blockA_ret ?_ | refine blockA_normal ?_ | refine thenA_ret ?_ | refine thenA_exit ?_ | refine thenA_normal ?_)
        refine walkL_cond rfl (fun hb => ?_) (fun hb => ?_)
        · have hlt : lo < hi := by simpa using hb
          obtain ⟨mid, hmid⟩ : ∃ mid, mid = (lo + hi + 1) / 2 := ⟨_, rfl⟩
          have w1 : IntKind.i64.wrap (lo + hi) = lo + hi := wr_small (by omega)
          have w2 : IntKind.i64.wrap (lo + hi + 1) = lo + hi + 1 := wr_small (by omega)
          have w3 : (lo + hi + 1).tdiv 2 = mid := by rw [hmid]; exact Int.tdiv_eq_ediv_of_nonneg (by omega)
          have w4 : IntKind.i64.wrap mid = mid := wr_small (by omega)
          have w5 : IntKind.i64.wrap (mid - 1) = mid - 1 := wr_small (by omega)
          have h59 := f59 p mid hs
          have h58m := h58 mid
          have hanym := hany mid (by omega) (by omega)
          rw [e1] at h59 h58m
          rw [Plant.cells] at h59
          cases q2 : (L.any fun b => lastsR (needsP p mid) b R == (p.sun.length : Int))
          · rw [q2] at h58m hanym
            have hne : ¬ mid ≤ s := fun h => by
              have := hanym.2 (eN_mono hz (by omega) h hs01.2 hes)
              cases this
            repeat (first | refine walkL_true rfl ?_ | refine walkL_false rfl ?_ | refine walkL_seq ?_ | refine walkL_skip ?_ | refine walkL_block ?_ | (refine walkL_region fun K hK => ?_; simp (maxSteps := 4000000) only [go_sem, w1, w2, w3, w4, w5]; (repeat (first | (refine ⟨_, .lent (hf := h59) (hd := rfl) (hr := rfl), ?_⟩; simp (maxSteps := 4000000) only [go_sem, w1, w2, w3, w4, w5]) | (refine ⟨_, .lent (hf := h58m) (hd := rfl) (hr := rfl), ?_⟩; simp (maxSteps := 4000000) only [go_sem, w1, w2, w3, w4, w5]) | (refine ⟨_, .given (hf := h59) (hd := rfl) (ha := rfl), ?_⟩; simp (maxSteps := 4000000) only [go_sem, w1, w2, w3, w4, w5]) | (refine ⟨_, .given (hf := h58m) (hd := rfl) (ha := rfl), ?_⟩; simp (maxSteps := 4000000) only [go_sem, w1, w2, w3, w4, w5]))); refine hK _ ?_; clear hK K) | refine walkL_nil ?_ | refine walkL_ret ?_ | refine walkL_exit ?_ | refine blockA_here ?_ | refine blockA_other rfl ?_ | refine blockA_ret ?_ | refine blockA_normal ?_ | refine thenA_ret ?_ | refine thenA_exit ?_ | refine thenA_normal ?_)
            refine ⟨rfl, (lo, mid - 1), ?_, ⟨k1, k2, by dsimp only; omega, by dsimp only; omega⟩, by dsimp only; omega⟩
            refine weak_of [] ?_ ?_ rfl rfl <;> simp [lessT, lessM, lessB, AV.less]
          · rw [q2] at h58m hanym
            have he := hanym.1 rfl
            have hle : mid ≤ s := Classical.byContradiction fun h => hmax mid (by omega) (by omega) he
            repeat (first | refine walkL_true rfl ?_ | refine walkL_false rfl ?_ | refine walkL_seq ?_ | refine walkL_skip ?_ | refine walkL_block ?_ | (refine walkL_region fun K hK => ?_; simp (maxSteps := 4000000) only [go_sem, w1, w2, w3, w4, w5]; (repeat (first | (refine ⟨_, .lent (hf := h59) (hd := rfl) (hr := rfl), ?_⟩; simp (maxSteps := 4000000) only [go_sem, w1, w2, w3, w4, w5]) | (refine ⟨_, .lent (hf := h58m) (hd := rfl) (hr := rfl), ?_⟩; simp (maxSteps := 4000000) only [go_sem, w1, w2, w3, w4, w5]) | (refine ⟨_, .given (hf := h59) (hd := rfl) (ha := rfl), ?_⟩; simp (maxSteps := 4000000) only [go_sem, w1, w2, w3, w4, w5]) | (refine ⟨_, .given (hf := h58m) (hd := rfl) (ha := rfl), ?_⟩; simp (maxSteps := 4000000) only [go_sem, w1, w2, w3, w4, w5]))); refine hK _ ?_; clear hK K) | refine walkL_nil ?_ | refine walkL_ret ?_ | refine walkL_exit ?_ | refine blockA_here ?_ | refine blockA_other rfl ?_ | refine blockA_ret ?_ | refine blockA_normal ?_ | refine thenA_ret ?_ | refine thenA_exit ?_ | refine thenA_normal ?_)
            refine ⟨rfl, (mid, hi), ?_, ⟨by dsimp only; omega, hle, k3, k4⟩, by dsimp only; omega⟩
            refine weak_of [] ?_ ?_ rfl rfl <;> simp [lessT, lessM, lessB, AV.less]
        · have hge : ¬ lo < hi := by simpa using hb
          have : lo = s := by omega
          subst this
          repeat (first | refine walkL_seq ?_ | refine walkL_skip ?_ | refine walkL_block ?_ | (refine walkL_region fun K hK => ?_; simp (maxSteps := 4000000) only [go_sem]; refine hK _ ?_; clear hK K) | refine walkL_nil ?_ | refine walkL_ret ?_ | refine walkL_exit ?_ | refine blockA_here ?_ | refine blockA_other rfl ?_ | refine blockA_ret ?_ | refine blockA_normal ?_ | refine thenA_ret ?_ | refine thenA_exit ?_ | refine thenA_normal ?_)
          simp (maxSteps := 4000000) only [go_sem]
  · rw [spareP_bad hz]
    rw [Plant.cells] at h36
    obtain ⟨e, he⟩ : ∃ e, e = plantE p := ⟨_, rfl⟩
    rw [← he] at h36 hz ⊢
    have q : (e != 0) = true := by simpa using hz
    refine fn_walk 44 Try.call27 Try.func27 rfl (by decide) fun J => ?_
    simp (maxSteps := 4000000) only [go_sem, St.start, Try.ntmps27, Try.results27, Plant.cells]
    repeat (first | refine walkL_true rfl ?_ | refine walkL_false rfl ?_ | refine walkL_seq ?_ | refine walkL_skip ?_ | refine walkL_block ?_ | (refine walkL_region fun K hK => ?_; simp (maxSteps := 4000000) only [go_sem, q]; (repeat (first | (refine ⟨_, .lent (hf := h36) (hd := rfl) (hr := rfl), ?_⟩; simp (maxSteps := 4000000) only [go_sem, q]) | (refine ⟨_, .given (hf := h36) (hd := rfl) (ha := rfl), ?_⟩; simp (maxSteps := 4000000) only [go_sem, q]))); refine hK _ ?_; clear hK K) | refine walkL_nil ?_ | refine walkL_ret ?_ | refine walkL_exit ?_ | refine blockA_here ?_ | refine blockA_other rfl ?_ | refine blockA_ret ?_ | refine blockA_normal ?_ | refine thenA_ret ?_ | refine thenA_exit ?_ | refine thenA_normal ?_)
    simp (maxSteps := 4000000) only [go_sem]
end Go.Ab
namespace Go.Ab
open Go.RowKit Go.Proofs
set_option maxHeartbeats 8000000
set_option maxRecDepth 20000
attribute [local irreducible] WalkL Walk

theorem f28 (p : Plant) (hs : PlantSmall p) (hf : far10 p = false) : Fn Try.prog 28 [.agg p.cells] (.tup [.i (leastP p).1, .i (leastP p).2]) := by
  have h36 := f36 p hs
  by_cases hz : plantE p = 0
  · obtain ⟨hH, hr⟩ := far_small hf hz
    have hg := plant_good hz
    have hrate := hg.rate
    have hunits := hg.units
    have hcap := hg.capacity
    have h47 := f47 p hH (by omega) p.sun.length [] p.units (by simp) (by omega)
    have h48 := f48 p hs hg
    change Fn Try.prog 47 _ (.sl (listRows (allP p))) at h47
    have hall := allP_burn hg
    have hlen : (allP p).length ≤ 3 ^ 5 := Nat.le_trans (burnsF_len (by omega) _ _ _ hunits.1) (Nat.pow_le_pow_right (by decide) hH)
    have hrl := rowsP_len hg
    have hrm := rowsP_mem hg
    have hnl := hg.needs
    have hsl := hg.sun
    have h58 : ∀ c, Fn Try.prog 58 [.agg (chargeP p c).cells, .sl (listRows (allP p)), .sl (listRows (rowsP p))] (.bool ((allP p).any fun b => lastsR (chargeP p c) b (rowsP p) == p.sun.length)) := fun c =>
      f58 (chargeP p c) (allP p) (rowsP p) hs.sun (by omega) (by omega) (fun b hb r hr => by
        have h1 := hrm r hr
        have h2 := (isBurn_iff.1 (hall b hb)).2.1
        have h3 : (chargeP p c).needs.length = p.needs.length := rfl
        omega)
    have hany : ∀ c, 0 ≤ c → c ≤ p.capacity → (((allP p).any fun b => lastsR (chargeP p c) b (rowsP p) == p.sun.length) = true ↔ eC p c) := fun c h0 h1 =>
      any_iff hg (good_charge hg ⟨h0, h1⟩) (fun _ => rfl) rfl rfl
    obtain ⟨S, hS⟩ : ∃ S, S = leastP p := ⟨_, rfl⟩
    have hsp := least_spec hz
    rw [← hS] at hsp ⊢
    obtain ⟨L, hL⟩ : ∃ L, L = allP p := ⟨_, rfl⟩
    obtain ⟨R, hR⟩ : ∃ R, R = rowsP p := ⟨_, rfl⟩
    rw [← hL] at h47
    rw [← hL, ← hR] at h58 hany
    rw [← hR] at h48
    rw [hz] at h36
    have e1 : ∀ c, (chargeP p c).cells = [.sl (scenRows p.scen), .sl (sightRows p.seen), .sl (intRows p.sun), .i p.gain, .i p.start, .i p.stop, .i c, .i p.capacity, .i p.reserve, .i p.gas, .i p.rate, .i p.units, .sl (intRows p.needs)] := fun c => rfl
    have h58c := h58 p.capacity
    have hanyc := hany p.capacity hcap.1 (Int.le_refl _)
    rw [e1] at h58c
    rw [Plant.cells] at h36 h47 h48
    have e0 : intRows [] = [] := rfl
    rw [e0] at h47
    rcases hsp with ⟨rfl, hno⟩ | ⟨s, rfl, hs01, hes, hmin⟩
    · have q : (L.any fun b => lastsR (chargeP p p.capacity) b R == p.sun.length) = false := by
        cases h : (L.any fun b => lastsR (chargeP p p.capacity) b R == (p.sun.length : Int)) with
        | false => rfl
        | true => exact absurd (hanyc.1 h) hno
      rw [q] at h58c
      refine fn_walk 54 Try.call28 Try.func28 rfl (by decide) fun J => ?_
      simp (maxSteps := 4000000) only [go_sem, St.start, Try.ntmps28, Try.results28, Plant.cells]
      repeat (first | refine walkL_true rfl ?_ | refine walkL_false rfl ?_ | refine walkL_seq ?_ | refine walkL_skip ?_ | refine walkL_block ?_ | (refine walkL_region fun K hK => ?_; simp (maxSteps := 4000000) only [go_sem]; (repeat (first | (refine ⟨_, .lent (hf := h36) (hd := rfl) (hr := rfl), ?_⟩; simp (maxSteps := 4000000) only [go_sem]) | (refine ⟨_, .given (hf := h36) (hd := rfl) (ha := rfl), ?_⟩; simp (maxSteps := 4000000) only [go_sem]))); refine hK _ ?_; clear hK K) | refine walkL_nil ?_ | refine walkL_ret ?_ | refine walkL_exit ?_ | refine blockA_here ?_ | refine blockA_other rfl ?_ | refine blockA_ret ?_ | refine blockA_normal ?_ | refine thenA_ret ?_ | refine thenA_exit ?_ | refine thenA_normal ?_)
      refine walkL_drawn (by kernel_rfl) (by kernel_rfl) fun K hK => ?_
      simp (maxSteps := 4000000) only [go_sem]
      refine ⟨_, .fn (hf := h47) (hd := rfl) (hr := .inr rfl), ?_⟩
      simp (maxSteps := 4000000) only [go_sem]
      refine ⟨_, .fn (hf := h48) (hd := rfl) (hr := .inr rfl), ?_⟩
      simp (maxSteps := 4000000) only [go_sem]
      refine ⟨by kernel_rfl, hK _ ?_⟩
      clear hK K
      repeat (first | refine walkL_true rfl ?_ | refine walkL_false rfl ?_ | refine walkL_seq ?_ | refine walkL_skip ?_ | refine walkL_block ?_ | (refine walkL_region fun K hK => ?_; simp (maxSteps := 4000000) only [go_sem]; (repeat (first | (refine ⟨_, .lent (hf := h58c) (hd := rfl) (hr := rfl), ?_⟩; simp (maxSteps := 4000000) only [go_sem]) | (refine ⟨_, .given (hf := h58c) (hd := rfl) (ha := rfl), ?_⟩; simp (maxSteps := 4000000) only [go_sem]))); refine hK _ ?_; clear hK K) | refine walkL_nil ?_ | refine walkL_ret ?_ | refine walkL_exit ?_ | refine blockA_here ?_ | refine blockA_other rfl ?_ | refine blockA_ret ?_ | refine blockA_normal ?_ | refine thenA_ret ?_ | refine thenA_exit ?_ | refine thenA_normal ?_)
      simp (maxSteps := 4000000) only [go_sem]
    · have q := hanyc.2 (eC_mono hz hs01.1 hs01.2 (Int.le_refl _) hes)
      rw [q] at h58c
      refine fn_walk 54 Try.call28 Try.func28 rfl (by decide) fun J => ?_
      simp (maxSteps := 4000000) only [go_sem, St.start, Try.ntmps28, Try.results28, Plant.cells]
      repeat (first | refine walkL_true rfl ?_ | refine walkL_false rfl ?_ | refine walkL_seq ?_ | refine walkL_skip ?_ | refine walkL_block ?_ | (refine walkL_region fun K hK => ?_; simp (maxSteps := 4000000) only [go_sem]; (repeat (first | (refine ⟨_, .lent (hf := h36) (hd := rfl) (hr := rfl), ?_⟩; simp (maxSteps := 4000000) only [go_sem]) | (refine ⟨_, .given (hf := h36) (hd := rfl) (ha := rfl), ?_⟩; simp (maxSteps := 4000000) only [go_sem]))); refine hK _ ?_; clear hK K) | refine walkL_nil ?_ | refine walkL_ret ?_ | refine walkL_exit ?_ | refine blockA_here ?_ | refine blockA_other rfl ?_ | refine blockA_ret ?_ | refine blockA_normal ?_ | refine thenA_ret ?_ | refine thenA_exit ?_ | refine thenA_normal ?_)
      refine walkL_drawn (by kernel_rfl) (by kernel_rfl) fun K hK => ?_
      simp (maxSteps := 4000000) only [go_sem]
      refine ⟨_, .fn (hf := h47) (hd := rfl) (hr := .inr rfl), ?_⟩
      simp (maxSteps := 4000000) only [go_sem]
      refine ⟨_, .fn (hf := h48) (hd := rfl) (hr := .inr rfl), ?_⟩
      simp (maxSteps := 4000000) only [go_sem]
      refine ⟨by kernel_rfl, hK _ ?_⟩
      clear hK K
      repeat (first | refine walkL_true rfl ?_ | refine walkL_false rfl ?_ | refine walkL_seq ?_ | refine walkL_skip ?_ | refine walkL_block ?_ | (refine walkL_region fun K hK => ?_; simp (maxSteps := 4000000) only [go_sem]; (repeat (first | (refine ⟨_, .lent (hf := h58c) (hd := rfl) (hr := rfl), ?_⟩; simp (maxSteps := 4000000) only [go_sem]) | (refine ⟨_, .given (hf := h58c) (hd := rfl) (ha := rfl), ?_⟩; simp (maxSteps := 4000000) only [go_sem]))); refine hK _ ?_; clear hK K) | refine walkL_nil ?_ | refine walkL_ret ?_ | refine walkL_exit ?_ | refine blockA_here ?_ | refine blockA_other rfl ?_ | refine blockA_ret ?_ | refine blockA_normal ?_ | refine thenA_ret ?_ | refine thenA_exit ?_ | refine thenA_normal ?_)
      repeat (first | refine walkL_true rfl ?_ | refine walkL_false rfl ?_ | refine walkL_seq ?_ | refine walkL_skip ?_ | refine walkL_block ?_ | (refine walkL_region fun K hK => ?_; simp (maxSteps := 4000000) only [go_sem]; refine hK _ ?_; clear hK K) | (refine walkL_drawn (by kernel_rfl) (by kernel_rfl) fun K hK => ?_; simp (maxSteps := 4000000) only [go_sem]; refine ⟨by kernel_rfl, hK _ ?_⟩; clear hK K) | refine walkL_nil ?_ | refine walkL_ret ?_ | refine walkL_exit ?_ | refine blockA_here ?_ | refine blockA_other rfl ?_ | refine blockA_ret ?_ | refine blockA_normal ?_ | refine thenA_ret ?_ | refine thenA_exit ?_ | refine thenA_normal ?_)
      refine walkL_loopS (fun (a : Int × Int × Int) => [(7, .d (.i a.1)), (8, .d (.i a.2.1))]) (fun a => [(1, some (.box [.d (.sl (scenRows p.scen)), .d (.sl (sightRows p.seen)), .d (.sl (intRows p.sun)), .d (.i p.gain), .d (.i p.start), .d (.i p.stop), .d (.i a.2.2), .d (.i p.capacity), .d (.i p.reserve), .d (.i p.gas), .d (.i p.rate), .d (.i p.units), .d (.sl (intRows p.needs))]))]) (fun a => 0 ≤ a.1 ∧ a.1 ≤ s ∧ s ≤ a.2.1 ∧ a.2.1 ≤ p.capacity) (fun a => (a.2.1 - a.1).toNat) (0, p.capacity, p.capacity) ?_ ⟨Int.le_refl _, hs01.1, hs01.2, Int.le_refl _⟩ ?_
      · simp (maxSteps := 4000000) only [go_sem]
        refine weak_of [] ?_ ?_ rfl rfl <;> simp [lessT, lessM, lessB, AV.less]
      · rintro ⟨lo, hi, ch⟩ ⟨k1, k2, k3, k4⟩
        dsimp only at k1 k2 k3 k4
        simp (maxSteps := 4000000) only [go_sem]
        repeat (first | refine walkL_seq ?_ | refine walkL_skip ?_ | refine walkL_block ?_ | (refine walkL_region fun K hK => ?_; simp (maxSteps := 4000000) only [go_sem]; refine hK _ ?_; clear hK K) | refine walkL_nil ?_ | refine walkL_ret ?_ | refine walkL_exit ?_ | refine blockA_here ?_ | refine blockA_other rfl ?_ | refine blockA_ret ?_ | refine blockA_normal ?_ | refine thenA_ret ?_ | refine thenA_exit ?_ | refine thenA_normal ?_)
        refine walkL_cond rfl (fun hb => ?_) (fun hb => ?_)
        · have hlt : lo < hi := by simpa using hb
          obtain ⟨mid, hmid⟩ : ∃ mid, mid = (lo + hi) / 2 := ⟨_, rfl⟩
          have w1 : IntKind.i64.wrap (lo + hi) = lo + hi := wr_small (by omega)
          have w3 : (lo + hi).tdiv 2 = mid := by rw [hmid]; exact Int.tdiv_eq_ediv_of_nonneg (by omega)
          have w4 : IntKind.i64.wrap mid = mid := wr_small (by omega)
          have w5 : IntKind.i64.wrap (mid + 1) = mid + 1 := wr_small (by omega)
          have h58m := h58 mid
          have hanym := hany mid (by omega) (by omega)
          rw [e1] at h58m
          cases q2 : (L.any fun b => lastsR (chargeP p mid) b R == (p.sun.length : Int))
          · rw [q2] at h58m hanym
            have hne : mid < s := Classical.byContradiction fun h => by
              have := hanym.2 (eC_mono hz hs01.1 (by omega) (by omega) hes)
              cases this
            repeat (first | refine walkL_true rfl ?_ | refine walkL_false rfl ?_ | refine walkL_seq ?_ | refine walkL_skip ?_ | refine walkL_block ?_ | (refine walkL_region fun K hK => ?_; simp (maxSteps := 4000000) only [go_sem, w1, w3, w4, w5]; (repeat (first | (refine ⟨_, .lent (hf := h58m) (hd := rfl) (hr := rfl), ?_⟩; simp (maxSteps := 4000000) only [go_sem, w1, w3, w4, w5]) | (refine ⟨_, .given (hf := h58m) (hd := rfl) (ha := rfl), ?_⟩; simp (maxSteps := 4000000) only [go_sem, w1, w3, w4, w5]))); refine hK _ ?_; clear hK K) | refine walkL_nil ?_ | refine walkL_ret ?_ | refine walkL_exit ?_ | refine blockA_here ?_ | refine blockA_other rfl ?_ | refine blockA_ret ?_ | refine blockA_normal ?_ | refine thenA_ret ?_ | refine thenA_exit ?_ | refine thenA_normal ?_)
            refine ⟨rfl, (mid + 1, hi, mid), ?_, ⟨by dsimp only; omega, by dsimp only; omega, k3, k4⟩, by dsimp only; omega⟩
            refine weak_of [] ?_ ?_ rfl rfl <;> simp [lessT, lessM, lessB, AV.less]
          · rw [q2] at h58m hanym
            have he := hanym.1 rfl
            have hle : s ≤ mid := Classical.byContradiction fun h => hmin mid (by omega) (by omega) he
            repeat (first | refine walkL_true rfl ?_ | refine walkL_false rfl ?_ | refine walkL_seq ?_ | refine walkL_skip ?_ | refine walkL_block ?_ | (refine walkL_region fun K hK => ?_; simp (maxSteps := 4000000) only [go_sem, w1, w3, w4, w5]; (repeat (first | (refine ⟨_, .lent (hf := h58m) (hd := rfl) (hr := rfl), ?_⟩; simp (maxSteps := 4000000) only [go_sem, w1, w3, w4, w5]) | (refine ⟨_, .given (hf := h58m) (hd := rfl) (ha := rfl), ?_⟩; simp (maxSteps := 4000000) only [go_sem, w1, w3, w4, w5]))); refine hK _ ?_; clear hK K) | refine walkL_nil ?_ | refine walkL_ret ?_ | refine walkL_exit ?_ | refine blockA_here ?_ | refine blockA_other rfl ?_ | refine blockA_ret ?_ | refine blockA_normal ?_ | refine thenA_ret ?_ | refine thenA_exit ?_ | refine thenA_normal ?_)
            refine ⟨rfl, (lo, mid, mid), ?_, ⟨k1, k2, hle, by dsimp only; omega⟩, by dsimp only; omega⟩
            refine weak_of [] ?_ ?_ rfl rfl <;> simp [lessT, lessM, lessB, AV.less]
        · have hge : ¬ lo < hi := by simpa using hb
          have : lo = s := by omega
          subst this
          repeat (first | refine walkL_seq ?_ | refine walkL_skip ?_ | refine walkL_block ?_ | (refine walkL_region fun K hK => ?_; simp (maxSteps := 4000000) only [go_sem]; refine hK _ ?_; clear hK K) | refine walkL_nil ?_ | refine walkL_ret ?_ | refine walkL_exit ?_ | refine blockA_here ?_ | refine blockA_other rfl ?_ | refine blockA_ret ?_ | refine blockA_normal ?_ | refine thenA_ret ?_ | refine thenA_exit ?_ | refine thenA_normal ?_)
          simp (maxSteps := 4000000) only [go_sem]
  · rw [leastP_bad hz]
    rw [Plant.cells] at h36
    obtain ⟨e, he⟩ : ∃ e, e = plantE p := ⟨_, rfl⟩
    rw [← he] at h36 hz ⊢
    have q : (e != 0) = true := by simpa using hz
    refine fn_walk 54 Try.call28 Try.func28 rfl (by decide) fun J => ?_
    simp (maxSteps := 4000000) only [go_sem, St.start, Try.ntmps28, Try.results28, Plant.cells]
    repeat (first | refine walkL_true rfl ?_ | refine walkL_false rfl ?_ | refine walkL_seq ?_ | refine walkL_skip ?_ | refine walkL_block ?_ | (refine walkL_region fun K hK => ?_; simp (maxSteps := 4000000) only [go_sem, q]; (repeat (first | (refine ⟨_, .lent (hf := h36) (hd := rfl) (hr := rfl), ?_⟩; simp (maxSteps := 4000000) only [go_sem, q]) | (refine ⟨_, .given (hf := h36) (hd := rfl) (ha := rfl), ?_⟩; simp (maxSteps := 4000000) only [go_sem, q]))); refine hK _ ?_; clear hK K) | refine walkL_nil ?_ | refine walkL_ret ?_ | refine walkL_exit ?_ | refine blockA_here ?_ | refine blockA_other rfl ?_ | refine blockA_ret ?_ | refine blockA_normal ?_ | refine thenA_ret ?_ | refine thenA_exit ?_ | refine thenA_normal ?_)
    simp (maxSteps := 4000000) only [go_sem]

theorem f7 (p : Plant) (hs : PlantSmall p) : Fn Try.prog 7 [.agg p.cells] (.bool true) := by
  have h18 := f18 p hs
  have h15 := f15
  cases hf : far10 p
  case true =>
    rw [hf, Plant.cells] at h18
    refine fn_walk 58 Try.call7 Try.func7 rfl (by decide) fun J => ?_
    simp (maxSteps := 4000000) only [go_sem, St.start, Try.ntmps7, Try.results7, Plant.cells]
    repeat (first | refine walkL_true rfl ?_ | refine walkL_false rfl ?_ | refine walkL_seq ?_ | refine walkL_skip ?_ | refine walkL_block ?_ | (refine walkL_region fun K hK => ?_; simp (maxSteps := 4000000) only [go_sem]; (repeat (first | (refine ⟨_, .lent (hf := h18) (hd := rfl) (hr := rfl), ?_⟩; simp (maxSteps := 4000000) only [go_sem]) | (refine ⟨_, .lent (hf := h15) (hd := rfl) (hr := rfl), ?_⟩; simp (maxSteps := 4000000) only [go_sem]) | (refine ⟨_, .given (hf := h18) (hd := rfl) (ha := rfl), ?_⟩; simp (maxSteps := 4000000) only [go_sem]) | (refine ⟨_, .given (hf := h15) (hd := rfl) (ha := rfl), ?_⟩; simp (maxSteps := 4000000) only [go_sem]))); refine hK _ ?_; clear hK K) | refine walkL_nil ?_ | refine walkL_ret ?_ | refine walkL_exit ?_ | refine blockA_here ?_ | refine blockA_other rfl ?_ | refine blockA_ret ?_ | refine blockA_normal ?_ | refine thenA_ret ?_ | refine thenA_exit ?_ | refine thenA_normal ?_)
    simp (maxSteps := 4000000) only [go_sem]
  case false =>
  have h16 := f16 p hs
  have h24 := f24 p hs
  have h25 := f25 p hs
  have h27 := f27 p hs hf
  have h28 := f28 p hs hf
  obtain ⟨r, hr⟩ : ∃ r, r = spareP p := ⟨_, rfl⟩
  obtain ⟨t, ht⟩ : ∃ t, t = leastP p := ⟨_, rfl⟩
  rw [← hr] at h24 h27
  rw [← ht] at h25 h28
  obtain ⟨a, b⟩ := r
  obtain ⟨c, d⟩ := t
  have q1 : (a == a) = true := by simp
  have q2 : (b == b) = true := by simp
  have q3 : (c == c) = true := by simp
  have q4 : (d == d) = true := by simp
  rw [hf] at h18
  rw [Plant.cells] at h18 h16 h24 h25 h27 h28
  refine fn_walk 58 Try.call7 Try.func7 rfl (by decide) fun J => ?_
  simp (maxSteps := 4000000) only [go_sem, St.start, Try.ntmps7, Try.results7, Plant.cells]
  repeat (first | refine walkL_true rfl ?_ | refine walkL_false rfl ?_ | refine walkL_seq ?_ | refine walkL_skip ?_ | refine walkL_block ?_ | (refine walkL_region fun K hK => ?_; simp (maxSteps := 4000000) only [go_sem, q1, q2, q3, q4]; (repeat (first | (refine ⟨_, .lent (hf := h18) (hd := rfl) (hr := rfl), ?_⟩; simp (maxSteps := 4000000) only [go_sem, q1, q2, q3, q4]) | (refine ⟨_, .lent (hf := h15) (hd := rfl) (hr := rfl), ?_⟩; simp (maxSteps := 4000000) only [go_sem, q1, q2, q3, q4]) | (refine ⟨_, .lent (hf := h16) (hd := rfl) (hr := rfl), ?_⟩; simp (maxSteps := 4000000) only [go_sem, q1, q2, q3, q4]) | (refine ⟨_, .lent (hf := h24) (hd := rfl) (hr := rfl), ?_⟩; simp (maxSteps := 4000000) only [go_sem, q1, q2, q3, q4]) | (refine ⟨_, .lent (hf := h25) (hd := rfl) (hr := rfl), ?_⟩; simp (maxSteps := 4000000) only [go_sem, q1, q2, q3, q4]) | (refine ⟨_, .lent (hf := h27) (hd := rfl) (hr := rfl), ?_⟩; simp (maxSteps := 4000000) only [go_sem, q1, q2, q3, q4]) | (refine ⟨_, .lent (hf := h28) (hd := rfl) (hr := rfl), ?_⟩; simp (maxSteps := 4000000) only [go_sem, q1, q2, q3, q4]) | (refine ⟨_, .given (hf := h18) (hd := rfl) (ha := rfl), ?_⟩; simp (maxSteps := 4000000) only [go_sem, q1, q2, q3, q4]) | (refine ⟨_, .given (hf := h15) (hd := rfl) (ha := rfl), ?_⟩; simp (maxSteps := 4000000) only [go_sem, q1, q2, q3, q4]) | (refine ⟨_, .given (hf := h16) (hd := rfl) (ha := rfl), ?_⟩; simp (maxSteps := 4000000) only [go_sem, q1, q2, q3, q4]) | (refine ⟨_, .given (hf := h24) (hd := rfl) (ha := rfl), ?_⟩; simp (maxSteps := 4000000) only [go_sem, q1, q2, q3, q4]) | (refine ⟨_, .given (hf := h25) (hd := rfl) (ha := rfl), ?_⟩; simp (maxSteps := 4000000) only [go_sem, q1, q2, q3, q4]) | (refine ⟨_, .given (hf := h27) (hd := rfl) (ha := rfl), ?_⟩; simp (maxSteps := 4000000) only [go_sem, q1, q2, q3, q4]) | (refine ⟨_, .given (hf := h28) (hd := rfl) (ha := rfl), ?_⟩; simp (maxSteps := 4000000) only [go_sem, q1, q2, q3, q4]))); refine hK _ ?_; clear hK K) | refine walkL_nil ?_ | refine walkL_ret ?_ | refine walkL_exit ?_ | refine blockA_here ?_ | refine blockA_other rfl ?_ | refine blockA_ret ?_ | refine blockA_normal ?_ | refine thenA_ret ?_ | refine thenA_exit ?_ | refine thenA_normal ?_)
  simp (maxSteps := 4000000) only [go_sem]
end Go.Ab
namespace Go.Ab
open Go.RowKit Go.Proofs
set_option maxHeartbeats 8000000
set_option maxRecDepth 20000
attribute [local irreducible] WalkL Walk

/-! ### A copy in memory of its own, more needs -/

theorem f16m (p : Plant) (hs : PlantSmall p) : FnG Try.prog 16 [] [] (List.map AV.d [.agg p.cells]) (.agg [.d (.sl (scenRows p.scen)), .own 0, .own 1, .d (.i p.gain), .d (.i p.start), .d (.i p.stop), .d (.i p.charge), .d (.i p.capacity), .d (.i p.reserve), .d (.i p.gas), .d (.i p.rate), .d (.i p.units), .own 2])
    [.arr 69 4 (sightRows p.seen), .arr 3 1 (intRows p.sun), .arr 3 1 (intRows p.needs)] := by
  have h43 := f43 p.scen hs.fore
  have h1 := hs.seen
  have h2 := hs.sun
  have h3 := hs.needs
  have e1 : p.seen.length ≤ 549755813888 := by omega
  have e2 : p.sun.length ≤ 549755813888 := by omega
  have e3 : p.needs.length ≤ 549755813888 := by omega
  refine fnG_walk 25 Try.call16 Try.func16 rfl (by decide) [9, 14, 19] [] (by simp only [List.length_cons, List.length_nil]; decide) (by kernel_rfl) fun J => ?_
  simp (maxSteps := 4000000) only [go_sem, St.startG, Try.ntmps16, Try.results16, List.map_cons, List.map_nil, List.range_succ,  Plant.cells]
  repeat (first | refine walkL_seq ?_ | refine walkL_skip ?_ | refine walkL_block ?_ | (refine walkL_region fun K hK => ?_; simp (maxSteps := 4000000) only [go_sem, e1, e2, e3, List.nil_append]; (repeat (first | (refine ⟨_, .lent (hf := h43) (hd := rfl) (hr := rfl), ?_⟩; simp (maxSteps := 4000000) only [go_sem, e1, e2, e3, List.nil_append]) | (refine ⟨_, .given (hf := h43) (hd := rfl) (ha := rfl), ?_⟩; simp (maxSteps := 4000000) only [go_sem, e1, e2, e3, List.nil_append]))); refine hK _ ?_; clear hK K) | refine walkL_nil ?_ | refine walkL_ret ?_ | refine walkL_exit ?_ | refine blockA_here ?_ | refine blockA_other rfl ?_ | refine blockA_ret ?_ | refine blockA_normal ?_ | refine thenA_ret ?_ | refine thenA_exit ?_ | refine thenA_normal ?_)
  simp (maxSteps := 4000000) only [go_sem, retG]

theorem f26 (p : Plant) (m : Int) (hs : PlantSmall p) : Fn Try.prog 26 [.agg p.cells, .i m] (.tup [.agg (needsP p m).cells, .bool (plantE (needsP p m) == 0)]) := by
  have hn := hs.needs
  have h16 := f16m p hs
  have h36 := f36 (needsP p m) (small_needs hs m)
  obtain ⟨f, hf⟩ : ∃ f : Int → Int, f = fun n => wr (n + m) := ⟨_, rfl⟩
  have e0 : (needsP p m).cells = [.sl (scenRows p.scen), .sl (sightRows p.seen), .sl (intRows p.sun), .i p.gain, .i p.start, .i p.stop, .i p.charge, .i p.capacity, .i p.reserve, .i p.gas, .i p.rate, .i p.units, .sl (intRows (p.needs.map f))] := by rw [hf]; rfl
  obtain ⟨E, hE⟩ : ∃ E, E = plantE (needsP p m) := ⟨_, rfl⟩
  rw [← hE, e0] at h36
  rw [← hE, e0]
  rw [Plant.cells] at h16
  refine fn_walk 29 Try.call26 Try.func26 rfl (by decide) fun J => ?_
  simp (maxSteps := 4000000) only [go_sem, St.start, Try.ntmps26, Try.results26, Plant.cells]
  repeat (first | refine walkL_seq ?_ | refine walkL_skip ?_ | refine walkL_block ?_ | (refine walkL_region fun K hK => ?_; simp (maxSteps := 4000000) only [go_sem]; refine hK _ ?_; clear hK K) | refine walkL_nil ?_ | refine walkL_ret ?_ | refine walkL_exit ?_ | refine blockA_here ?_ | refine blockA_other rfl ?_ | refine blockA_ret ?_ | refine blockA_normal ?_ | refine thenA_ret ?_ | refine thenA_exit ?_ | refine thenA_normal ?_)
  refine walkL_region fun K hK => ?_
  simp (maxSteps := 4000000) only [go_sem]
  refine ⟨_, .made (news := [26, 27, 28]) (hf := h16) (hd := rfl) (hn := by decide) (hl := rfl) (hnew := rfl) (hx := rfl), ?_⟩
  simp (maxSteps := 4000000) only [go_sem, List.map_cons, List.map_nil]
  refine hK _ ?_
  clear hK K
  repeat (first | refine walkL_seq ?_ | refine walkL_skip ?_ | refine walkL_block ?_ | (refine walkL_region fun K hK => ?_; simp (maxSteps := 4000000) only [go_sem]; refine hK _ ?_; clear hK K) | refine walkL_nil ?_ | refine walkL_ret ?_ | refine walkL_exit ?_ | refine blockA_here ?_ | refine blockA_other rfl ?_ | refine blockA_ret ?_ | refine blockA_normal ?_ | refine thenA_ret ?_ | refine thenA_exit ?_ | refine thenA_normal ?_)
  refine walkL_loopS (fun (i : Nat) => [(7, .d (.i i))]) (fun i => [(28, some (.arr 3 1 (intRows (updN f p.needs i))))]) (fun i => i ≤ p.needs.length) (fun i => p.needs.length - i) 0 ?_ (Nat.zero_le _) ?_
  · simp (maxSteps := 4000000) only [go_sem, updN_zero]
    refine weak_of [] ?_ ?_ rfl rfl <;> simp [lessT, lessM, lessB, AV.less]
    all_goals first | done | rfl | exact ⟨rfl, rfl⟩ | rw [updN_zero]
  · intro i hi
    simp (maxSteps := 4000000) only [go_sem, updN_len]
    repeat (first | refine walkL_seq ?_ | refine walkL_skip ?_ | refine walkL_block ?_ | (refine walkL_region fun K hK => ?_; simp (maxSteps := 4000000) only [go_sem, updN_len]; refine hK _ ?_; clear hK K) | refine walkL_nil ?_ | refine walkL_ret ?_ | refine walkL_exit ?_ | refine blockA_here ?_ | refine blockA_other rfl ?_ | refine blockA_ret ?_ | refine blockA_normal ?_ | refine thenA_ret ?_ | refine thenA_exit ?_ | refine thenA_normal ?_)
    refine walkL_cond rfl (fun hb => ?_) (fun hb => ?_)
    · have hlt : i < p.needs.length := by simpa using hb
      have hw : IntKind.i64.wrap ((i : Int) + 1) = ((i + 1 : Nat) : Int) := by rw [wr_small (by omega)]; simp
      obtain ⟨x, hx⟩ : ∃ x, p.needs[i]? = some x := ⟨_, List.getElem?_eq_getElem hlt⟩
      have g1 := intRows_at (updN_get f hx)
      have hfx : IntKind.i64.wrap (x + m) = f x := by rw [hf]
      repeat (first | refine walkL_seq ?_ | refine walkL_skip ?_ | refine walkL_block ?_ | (refine walkL_region fun K hK => ?_; simp (maxSteps := 4000000) only [go_sem, g1, hw, updN_len, hfx, hlt]; refine hK _ ?_; clear hK K) | refine walkL_nil ?_ | refine walkL_ret ?_ | refine walkL_exit ?_ | refine blockA_here ?_ | refine blockA_other rfl ?_ | refine blockA_ret ?_ | refine blockA_normal ?_ | refine thenA_ret ?_ | refine thenA_exit ?_ | refine thenA_normal ?_)
      refine ⟨rfl, i + 1, ?_, hlt, by omega⟩
      rw [← updN_set f hx, intRows_set]
      refine weak_of [] ?_ ?_ rfl rfl <;> simp [lessT, lessM, lessB, AV.less]
      all_goals first | done | rfl | exact ⟨rfl, rfl⟩
    · have he : i = p.needs.length := by (have : ¬ i < p.needs.length := by simpa using hb); omega
      subst he
      rw [updN_all]
      repeat (first | refine walkL_seq ?_ | refine walkL_skip ?_ | refine walkL_block ?_ | (refine walkL_region fun K hK => ?_; simp (maxSteps := 4000000) only [go_sem]; refine hK _ ?_; clear hK K) | refine walkL_nil ?_ | refine walkL_ret ?_ | refine walkL_exit ?_ | refine blockA_here ?_ | refine blockA_other rfl ?_ | refine blockA_ret ?_ | refine blockA_normal ?_ | refine thenA_ret ?_ | refine thenA_exit ?_ | refine thenA_normal ?_)
      refine walkL_drawn (by kernel_rfl) (by kernel_rfl) fun K hK => ?_
      simp (maxSteps := 4000000) only [go_sem]
      refine ⟨_, .fn (hf := h36) (hd := rfl) (hr := .inl rfl), ?_⟩
      simp (maxSteps := 4000000) only [go_sem]
      refine ⟨by kernel_rfl, hK _ ?_⟩
      clear hK K
      repeat (first | refine walkL_seq ?_ | refine walkL_skip ?_ | refine walkL_block ?_ | (refine walkL_region fun K hK => ?_; simp (maxSteps := 4000000) only [go_sem]; refine hK _ ?_; clear hK K) | refine walkL_nil ?_ | refine walkL_ret ?_ | refine walkL_exit ?_ | refine blockA_here ?_ | refine blockA_other rfl ?_ | refine blockA_ret ?_ | refine blockA_normal ?_ | refine thenA_ret ?_ | refine thenA_exit ?_ | refine thenA_normal ?_)
      simp (maxSteps := 4000000) only [go_sem]
end Go.Ab
namespace Go.Ab
open Go.RowKit Go.Proofs
set_option maxHeartbeats 16000000
set_option maxRecDepth 20000
attribute [local irreducible] WalkL Walk

/-! ### PowerEdge -/

theorem plantE_charge {p : Plant} (hz : plantE p = 0) {c : Int} (hc : 0 ≤ c ∧ c ≤ p.capacity) : plantE (chargeP p c) = 0 := by
  have hlk := look_good (plant_good hz)
  unfold plantE at hz ⊢
  rw [if_pos hlk] at hz
  have e : lookF (chargeP p c).scen (chargeP p c).seen 0 true = 0 := hlk
  rw [if_pos e]
  have hb : plantBad p (hoursOf p) = false := by
    cases h : plantBad p (hoursOf p) with
    | false => rfl
    | true => rw [h, if_pos rfl] at hz; cases hz
  have : plantBad (chargeP p c) (hoursOf (chargeP p c)) = false := by
    unfold plantBad at hb ⊢
    simp only [Bool.or_eq_false_iff, Bool.not_eq_false', decide_eq_false_iff_not] at hb ⊢
    exact ⟨hb.1, hb.2.1, hb.2.2.1, hb.2.2.2.1, hb.2.2.2.2.1, hb.2.2.2.2.2.1, within_iff.2 hc, hb.2.2.2.2.2.2.2⟩
  rw [this, if_neg (by decide)]

theorem plan_charge {p : Plant} (hz : plantE p = 0) {c : Int} (hc : 0 ≤ c ∧ c ≤ p.capacity) : (eC p c → (planP (chargeP p c)).2.2 = 0) ∧ (¬ eC p c → (planP (chargeP p c)).2.2 = 3) := by
  rcases plan_spec (good_charge (plant_good hz) hc) (plantE_charge hz hc) with ⟨b, u, h1, h2, h3⟩ | ⟨h1, h2⟩
  · rw [h1]
    exact ⟨fun _ => rfl, fun h => absurd ⟨b, h2.isBurn, h3⟩ h⟩
  · rw [h1]
    exact ⟨fun ⟨b, hb, hl⟩ => absurd hl (h2 b hb), fun _ => rfl⟩

theorem plan_needs {p : Plant} (hz : plantE p = 0) {m : Int} (hm : 0 ≤ m ∧ m ≤ 10000) (h0 : plantE (needsP p m) = 0) : (eN p m → (planP (needsP p m)).2.2 = 0) ∧ (¬ eN p m → (planP (needsP p m)).2.2 = 3) := by
  rcases plan_spec (good_needs (plant_good hz) (needs_10 hz) hm) h0 with ⟨b, u, h1, h2, h3⟩ | ⟨h1, h2⟩
  · rw [h1]
    exact ⟨fun _ => rfl, fun h => absurd ⟨b, h2.isBurn, h3⟩ h⟩
  · rw [h1]
    exact ⟨fun ⟨b, hb, hl⟩ => absurd hl (h2 b hb), fun _ => rfl⟩

theorem plan_own {p : Plant} (hz : plantE p = 0) : (eC p p.charge → (planP p).2.2 = 0) ∧ (¬ eC p p.charge → (planP p).2.2 = 3) := plan_charge hz (plant_good hz).charge
theorem eN_own {p : Plant} (hz : plantE p = 0) : eN p 0 ↔ eC p p.charge := by
  unfold eN eC
  rw [needs_zero (needs_10 hz)]
  rfl

theorem f6 (p : Plant) (more less : Int) (hs : PlantSmall p) : Fn Try.prog 6 [.agg p.cells, .i more, .i less] (.bool true) := by
  have h14 := f14 p hs
  have h15 := f15
  cases hv : validB p
  case false =>
    rw [hv, Plant.cells] at h14
    refine fn_walk 184 Try.call6 Try.func6 rfl (by decide) fun J => ?_
    simp (maxSteps := 4000000) only [go_sem, St.start, Try.ntmps6, Try.results6, Plant.cells]
    repeat (first | refine walkL_true rfl ?_ | refine walkL_false rfl ?_ | refine walkL_seq ?_ | refine walkL_skip ?_ | refine walkL_block ?_ | (refine walkL_region fun K hK => ?_; simp (maxSteps := 4000000) only [go_sem]; (repeat (first | (refine ⟨_, .lent (hf := h14) (hd := rfl) (hr := rfl), ?_⟩; simp (maxSteps := 4000000) only [go_sem]) | (refine ⟨_, .lent (hf := h15) (hd := rfl) (hr := rfl), ?_⟩; simp (maxSteps := 4000000) only [go_sem]) | (refine ⟨_, .given (hf := h14) (hd := rfl) (ha := rfl), ?_⟩; simp (maxSteps := 4000000) only [go_sem]) | (refine ⟨_, .given (hf := h15) (hd := rfl) (ha := rfl), ?_⟩; simp (maxSteps := 4000000) only [go_sem]))); refine hK _ ?_; clear hK K) | refine walkL_nil ?_ | refine walkL_ret ?_ | refine walkL_exit ?_ | refine blockA_here ?_ | refine blockA_other rfl ?_ | refine blockA_ret ?_ | refine blockA_normal ?_ | refine thenA_ret ?_ | refine thenA_exit ?_ | refine thenA_normal ?_)
    simp (maxSteps := 4000000) only [go_sem]
  case true =>
  obtain ⟨hz, hg, hH, hrt⟩ := asked hv
  rw [hv] at h14
  have hch := hg.charge
  have hcap := hg.capacity
  have h17 := f17 p hs
  have h24 := f24 p hs
  have h25 := f25 p hs
  have e1 : ∀ c, (chargeP p c).cells = [.sl (scenRows p.scen), .sl (sightRows p.seen), .sl (intRows p.sun), .i p.gain, .i p.start, .i p.stop, .i c, .i p.capacity, .i p.reserve, .i p.gas, .i p.rate, .i p.units, .sl (intRows p.needs)] := fun c => rfl
  have e2 : ∀ m, (needsP p m).cells = [.sl (scenRows p.scen), .sl (sightRows p.seen), .sl (intRows p.sun), .i p.gain, .i p.start, .i p.stop, .i p.charge, .i p.capacity, .i p.reserve, .i p.gas, .i p.rate, .i p.units, .sl (intRows (needsP p m).needs)] := fun m => rfl
  have h17c : ∀ c, Fn Try.prog 17 [.agg (chargeP p c).cells] _ := fun c => f17 (chargeP p c) ⟨hs.fore, hs.seen, hs.sun, hs.needs⟩
  have h17n : ∀ m, Fn Try.prog 17 [.agg (needsP p m).cells] _ := fun m => f17 (needsP p m) (small_needs hs m)
  have h26 := fun m => f26 p m hs
  rw [Plant.cells] at h14 h17 h24 h25
  simp only [e2] at h26 h17n
  simp only [e1] at h17c
  rw [Plant.cells] at h26
  obtain ⟨P, hP⟩ : ∃ P, P = planP p := ⟨_, rfl⟩
  have hpo := plan_own hz
  rw [← hP] at hpo h17
  obtain ⟨pb, pu, pe⟩ := P
  dsimp only at hpo h17
  -- the plan with so much charge
  have hC : ∀ c, 0 ≤ c → c ≤ p.capacity → ∃ b u e, planP (chargeP p c) = (b, u, e) ∧ (eC p c → e = 0) ∧ (¬ eC p c → e = 3) := fun c h0 h1 => by
    obtain ⟨k1, k2⟩ := plan_charge hz ⟨h0, h1⟩
    exact ⟨_, _, _, rfl, k1, k2⟩
  have hN : ∀ m, 0 ≤ m → m ≤ 10000 → ∃ b u e, planP (needsP p m) = (b, u, e) ∧ (plantE (needsP p m) = 0 → (eN p m → e = 0) ∧ (¬ eN p m → e = 3)) := fun m h0 h1 => by
    have k := fun h => plan_needs hz ⟨h0, h1⟩ h
    exact ⟨_, _, _, rfl, k⟩
  rcases least_spec hz with ⟨hl, hlno⟩ | ⟨c, hl, hc01, hce, hcmin⟩
  · -- no charge is enough
    have hno : ¬ eC p p.charge := fun h => hlno (eC_mono hz hch.1 hch.2 (Int.le_refl _) h)
    have he := hpo.2 hno
    subst he
    rcases spare_spec hz with ⟨hsp, _⟩ | ⟨s, _, hs01, hse, _⟩
    · rw [hsp] at h24
      rw [hl] at h25
      refine fn_walk 184 Try.call6 Try.func6 rfl (by decide) fun J => ?_
      simp (maxSteps := 4000000) only [go_sem, St.start, Try.ntmps6, Try.results6, Plant.cells]
      repeat (first | refine walkL_true rfl ?_ | refine walkL_false rfl ?_ | refine walkL_seq ?_ | refine walkL_skip ?_ | refine walkL_block ?_ | (refine walkL_region fun K hK => ?_; simp (maxSteps := 4000000) only [go_sem]; (repeat (first | (refine ⟨_, .lent (hf := h14) (hd := rfl) (hr := rfl), ?_⟩; simp (maxSteps := 4000000) only [go_sem]) | (refine ⟨_, .lent (hf := h15) (hd := rfl) (hr := rfl), ?_⟩; simp (maxSteps := 4000000) only [go_sem]) | (refine ⟨_, .lent (hf := h17) (hd := rfl) (hr := rfl), ?_⟩; simp (maxSteps := 4000000) only [go_sem]) | (refine ⟨_, .lent (hf := h24) (hd := rfl) (hr := rfl), ?_⟩; simp (maxSteps := 4000000) only [go_sem]) | (refine ⟨_, .lent (hf := h25) (hd := rfl) (hr := rfl), ?_⟩; simp (maxSteps := 4000000) only [go_sem]) | (refine ⟨_, .given (hf := h14) (hd := rfl) (ha := rfl), ?_⟩; simp (maxSteps := 4000000) only [go_sem]) | (refine ⟨_, .given (hf := h15) (hd := rfl) (ha := rfl), ?_⟩; simp (maxSteps := 4000000) only [go_sem]) | (refine ⟨_, .given (hf := h17) (hd := rfl) (ha := rfl), ?_⟩; simp (maxSteps := 4000000) only [go_sem]) | (refine ⟨_, .given (hf := h24) (hd := rfl) (ha := rfl), ?_⟩; simp (maxSteps := 4000000) only [go_sem]) | (refine ⟨_, .given (hf := h25) (hd := rfl) (ha := rfl), ?_⟩; simp (maxSteps := 4000000) only [go_sem]))); refine hK _ ?_; clear hK K) | refine walkL_nil ?_ | refine walkL_ret ?_ | refine walkL_exit ?_ | refine blockA_here ?_ | refine blockA_other rfl ?_ | refine blockA_ret ?_ | refine blockA_normal ?_ | refine thenA_ret ?_ | refine thenA_exit ?_ | refine thenA_normal ?_)
      simp (maxSteps := 4000000) only [go_sem]
    · exact absurd ((eN_own hz).1 (eN_mono hz (Int.le_refl _) hs01.1 hs01.2 hse)) hno
  · rw [hl] at h25
    obtain ⟨cb, cu, ce, hc1, hc2, _⟩ := hC c hc01.1 hc01.2
    have he := hc2 hce
    subst he
    have h17a := h17c c
    rw [hc1] at h17a
    have c1 : decide (c < 0) = false := by simp; omega
    have c2 : decide (c > p.capacity) = false := by simp; omega
    by_cases hown : eC p p.charge
    · have he := hpo.1 hown
      subst he
      have hcc : c ≤ p.charge := Classical.byContradiction fun h => hcmin p.charge hch.1 (by omega) hown
      have c3 : decide (p.charge ≥ c) = true := by simpa using hcc
      rcases spare_spec hz with ⟨_, hno⟩ | ⟨s, hsp, hs01, hse, hsmax⟩
      · exact absurd ((eN_own hz).2 hown) hno
      · rw [hsp] at h24
        have s1 : decide (s < 0) = false := by simp; omega
        have s2 : decide (s > 10000) = false := by simp; omega
        obtain ⟨nb, nu, ne, hn1, hn2⟩ := hN s hs01.1 hs01.2
        have h17s := h17n s
        have h26s := h26 s
        rw [hn1] at h17s
        obtain ⟨z, hzz⟩ : ∃ z, z = (plantE (needsP p s) == 0) := ⟨_, rfl⟩
        rw [← hzz] at h26s
        obtain ⟨y, hy⟩ : ∃ y, y = (ne != 0) := ⟨_, rfl⟩
        have hzy : z = true → y = false := fun h => by
          rw [h] at hzz
          have := (hn2 (by simpa using hzz.symm)).1 hse
          rw [hy, this]
          rfl
        have hy := hy.symm
        have h17l : ∃ lb lu, (decide (less ≥ 0) = true → decide (less < c) = true → Fn Try.prog 17 [.agg [.sl (scenRows p.scen), .sl (sightRows p.seen), .sl (intRows p.sun), .i p.gain, .i p.start, .i p.stop, .i less, .i p.capacity, .i p.reserve, .i p.gas, .i p.rate, .i p.units, .sl (intRows p.needs)]] (.tup [.sl (intRows lb), .i lu, .i 3])) := ⟨(planP (chargeP p less)).1, (planP (chargeP p less)).2.1, fun k1 k2 => by
          have k1 := of_decide_eq_true k1
          have k2 := of_decide_eq_true k2
          have hp := (plan_charge hz (c := less) ⟨by omega, by omega⟩).2 (hcmin less (by omega) k2)
          have := h17c less
          rw [hp] at this
          exact this⟩
        obtain ⟨lb, lu, h17l⟩ := h17l
        have hmore : decide (more ≤ s) = false → decide (more > 10000) = false → ∃ (vb : List Int) (vu ve : Int) (z2 : Bool), Fn Try.prog 17 [.agg [.sl (scenRows p.scen), .sl (sightRows p.seen), .sl (intRows p.sun), .i p.gain, .i p.start, .i p.stop, .i p.charge, .i p.capacity, .i p.reserve, .i p.gas, .i p.rate, .i p.units, .sl (intRows (needsP p more).needs)]] (.tup [.sl (intRows vb), .i vu, .i ve]) ∧ Fn Try.prog 26 [.agg [.sl (scenRows p.scen), .sl (sightRows p.seen), .sl (intRows p.sun), .i p.gain, .i p.start, .i p.stop, .i p.charge, .i p.capacity, .i p.reserve, .i p.gas, .i p.rate, .i p.units, .sl (intRows p.needs)], .i more] (.tup [.agg [.sl (scenRows p.scen), .sl (sightRows p.seen), .sl (intRows p.sun), .i p.gain, .i p.start, .i p.stop, .i p.charge, .i p.capacity, .i p.reserve, .i p.gas, .i p.rate, .i p.units, .sl (intRows (needsP p more).needs)], .bool z2]) ∧ (z2 = true → ve = 3) := fun m1 m2 => by
          have m1' := of_decide_eq_false m1
          have m2' := of_decide_eq_false m2
          obtain ⟨vb, vu, ve, hv1, hv2⟩ := hN more (by omega) (by omega)
          have h17m := h17n more
          rw [hv1] at h17m
          exact ⟨vb, vu, ve, _, h17m, h26 more, fun h => (hv2 (by simpa using h)).2 (hsmax more (by omega) (by omega))⟩
        clear h17c h17n h26 hN hC
        refine fn_walk 184 Try.call6 Try.func6 rfl (by decide) fun J => ?_
        simp (maxSteps := 4000000) only [go_sem, St.start, Try.ntmps6, Try.results6, Plant.cells]
        repeat (first | refine walkL_true rfl ?_ | refine walkL_false rfl ?_ | refine walkL_seq ?_ | refine walkL_skip ?_ | refine walkL_block ?_ | (refine walkL_region fun K hK => ?_; simp (maxSteps := 4000000) only [go_sem, c1, c2, c3, s1, s2]; (repeat (first | (refine ⟨_, .lent (hf := h14) (hd := rfl) (hr := rfl), ?_⟩; simp (maxSteps := 4000000) only [go_sem, c1, c2, c3, s1, s2]) | (refine ⟨_, .lent (hf := h15) (hd := rfl) (hr := rfl), ?_⟩; simp (maxSteps := 4000000) only [go_sem, c1, c2, c3, s1, s2]) | (refine ⟨_, .lent (hf := h17) (hd := rfl) (hr := rfl), ?_⟩; simp (maxSteps := 4000000) only [go_sem, c1, c2, c3, s1, s2]) | (refine ⟨_, .lent (hf := h24) (hd := rfl) (hr := rfl), ?_⟩; simp (maxSteps := 4000000) only [go_sem, c1, c2, c3, s1, s2]) | (refine ⟨_, .lent (hf := h25) (hd := rfl) (hr := rfl), ?_⟩; simp (maxSteps := 4000000) only [go_sem, c1, c2, c3, s1, s2]) | (refine ⟨_, .lent (hf := h17a) (hd := rfl) (hr := rfl), ?_⟩; simp (maxSteps := 4000000) only [go_sem, c1, c2, c3, s1, s2]) | (refine ⟨_, .given (hf := h14) (hd := rfl) (ha := rfl), ?_⟩; simp (maxSteps := 4000000) only [go_sem, c1, c2, c3, s1, s2]) | (refine ⟨_, .given (hf := h15) (hd := rfl) (ha := rfl), ?_⟩; simp (maxSteps := 4000000) only [go_sem, c1, c2, c3, s1, s2]) | (refine ⟨_, .given (hf := h17) (hd := rfl) (ha := rfl), ?_⟩; simp (maxSteps := 4000000) only [go_sem, c1, c2, c3, s1, s2]) | (refine ⟨_, .given (hf := h24) (hd := rfl) (ha := rfl), ?_⟩; simp (maxSteps := 4000000) only [go_sem, c1, c2, c3, s1, s2]) | (refine ⟨_, .given (hf := h25) (hd := rfl) (ha := rfl), ?_⟩; simp (maxSteps := 4000000) only [go_sem, c1, c2, c3, s1, s2]) | (refine ⟨_, .given (hf := h17a) (hd := rfl) (ha := rfl), ?_⟩; simp (maxSteps := 4000000) only [go_sem, c1, c2, c3, s1, s2]))); refine hK _ ?_; clear hK K) | refine walkL_nil ?_ | refine walkL_ret ?_ | refine walkL_exit ?_ | refine blockA_here ?_ | refine blockA_other rfl ?_ | refine blockA_ret ?_ | refine blockA_normal ?_ | refine thenA_ret ?_ | refine thenA_exit ?_ | refine thenA_normal ?_)
        cases hd1 : decide (less ≥ 0) <;> cases hd2 : decide (less < c)
        all_goals
          try have h17l := h17l hd1 hd2
          repeat (first | refine walkL_true rfl ?_ | refine walkL_false rfl ?_ | refine walkL_seq ?_ | refine walkL_skip ?_ | refine walkL_block ?_ | (refine walkL_region fun K hK => ?_; simp (maxSteps := 4000000) only [go_sem, hd1, hd2]; (repeat (first | (refine ⟨_, .lent (hf := h17l) (hd := rfl) (hr := rfl), ?_⟩; simp (maxSteps := 4000000) only [go_sem, hd1, hd2]) | (refine ⟨_, .lent (hf := h26s) (hd := rfl) (hr := rfl), ?_⟩; simp (maxSteps := 4000000) only [go_sem, hd1, hd2]) | (refine ⟨_, .lent (hf := h17s) (hd := rfl) (hr := rfl), ?_⟩; simp (maxSteps := 4000000) only [go_sem, hd1, hd2]) | (refine ⟨_, .given (hf := h17l) (hd := rfl) (ha := rfl), ?_⟩; simp (maxSteps := 4000000) only [go_sem, hd1, hd2]) | (refine ⟨_, .given (hf := h26s) (hd := rfl) (ha := rfl), ?_⟩; simp (maxSteps := 4000000) only [go_sem, hd1, hd2]) | (refine ⟨_, .given (hf := h17s) (hd := rfl) (ha := rfl), ?_⟩; simp (maxSteps := 4000000) only [go_sem, hd1, hd2]))); refine hK _ ?_; clear hK K) | refine walkL_nil ?_ | refine walkL_ret ?_ | refine walkL_exit ?_ | refine blockA_here ?_ | refine blockA_other rfl ?_ | refine blockA_ret ?_ | refine blockA_normal ?_ | refine thenA_ret ?_ | refine thenA_exit ?_ | refine thenA_normal ?_)
          cases z
          all_goals
            try (have := hzy rfl; subst this)
            repeat (first | refine walkL_true rfl ?_ | refine walkL_false rfl ?_ | refine walkL_seq ?_ | refine walkL_skip ?_ | refine walkL_block ?_ | (refine walkL_region fun K hK => ?_; simp (maxSteps := 4000000) only [go_sem, hy]; refine hK _ ?_; clear hK K) | refine walkL_nil ?_ | refine walkL_ret ?_ | refine walkL_exit ?_ | refine blockA_here ?_ | refine blockA_other rfl ?_ | refine blockA_ret ?_ | refine blockA_normal ?_ | refine thenA_ret ?_ | refine thenA_exit ?_ | refine thenA_normal ?_)
            cases m1 : decide (more ≤ s)
            · cases m2 : decide (more > 10000)
              · obtain ⟨vb, vu, ve, z2, h17m, h26m, hz2⟩ := hmore m1 m2
                repeat (first | refine walkL_true rfl ?_ | refine walkL_false rfl ?_ | refine walkL_seq ?_ | refine walkL_skip ?_ | refine walkL_block ?_ | (refine walkL_region fun K hK => ?_; simp (maxSteps := 4000000) only [go_sem, m1, m2]; (repeat (first | (refine ⟨_, .lent (hf := h26m) (hd := rfl) (hr := rfl), ?_⟩; simp (maxSteps := 4000000) only [go_sem, m1, m2]) | (refine ⟨_, .lent (hf := h17m) (hd := rfl) (hr := rfl), ?_⟩; simp (maxSteps := 4000000) only [go_sem, m1, m2]) | (refine ⟨_, .given (hf := h26m) (hd := rfl) (ha := rfl), ?_⟩; simp (maxSteps := 4000000) only [go_sem, m1, m2]) | (refine ⟨_, .given (hf := h17m) (hd := rfl) (ha := rfl), ?_⟩; simp (maxSteps := 4000000) only [go_sem, m1, m2]))); refine hK _ ?_; clear hK K) | refine walkL_nil ?_ | refine walkL_ret ?_ | refine walkL_exit ?_ | refine blockA_here ?_ | refine blockA_other rfl ?_ | refine blockA_ret ?_ | refine blockA_normal ?_ | refine thenA_ret ?_ | refine thenA_exit ?_ | refine thenA_normal ?_)
                cases z2
                all_goals
                  try (have := hz2 rfl; subst this)
                  repeat (first | refine walkL_true rfl ?_ | refine walkL_false rfl ?_ | refine walkL_seq ?_ | refine walkL_skip ?_ | refine walkL_block ?_ | (refine walkL_region fun K hK => ?_; simp (maxSteps := 4000000) only [go_sem]; (repeat (first | (refine ⟨_, .lent (hf := h15) (hd := rfl) (hr := rfl), ?_⟩; simp (maxSteps := 4000000) only [go_sem]) | (refine ⟨_, .given (hf := h15) (hd := rfl) (ha := rfl), ?_⟩; simp (maxSteps := 4000000) only [go_sem]))); refine hK _ ?_; clear hK K) | refine walkL_nil ?_ | refine walkL_ret ?_ | refine walkL_exit ?_ | refine blockA_here ?_ | refine blockA_other rfl ?_ | refine blockA_ret ?_ | refine blockA_normal ?_ | refine thenA_ret ?_ | refine thenA_exit ?_ | refine thenA_normal ?_)
                  simp (maxSteps := 4000000) only [go_sem]
              · repeat (first | refine walkL_true rfl ?_ | refine walkL_false rfl ?_ | refine walkL_seq ?_ | refine walkL_skip ?_ | refine walkL_block ?_ | (refine walkL_region fun K hK => ?_; simp (maxSteps := 4000000) only [go_sem, m1, m2]; (repeat (first | (refine ⟨_, .lent (hf := h15) (hd := rfl) (hr := rfl), ?_⟩; simp (maxSteps := 4000000) only [go_sem, m1, m2]) | (refine ⟨_, .given (hf := h15) (hd := rfl) (ha := rfl), ?_⟩; simp (maxSteps := 4000000) only [go_sem, m1, m2]))); refine hK _ ?_; clear hK K) | refine walkL_nil ?_ | refine walkL_ret ?_ | refine walkL_exit ?_ | refine blockA_here ?_ | refine blockA_other rfl ?_ | refine blockA_ret ?_ | refine blockA_normal ?_ | refine thenA_ret ?_ | refine thenA_exit ?_ | refine thenA_normal ?_)
                simp (maxSteps := 4000000) only [go_sem]
            · repeat (first | refine walkL_true rfl ?_ | refine walkL_false rfl ?_ | refine walkL_seq ?_ | refine walkL_skip ?_ | refine walkL_block ?_ | (refine walkL_region fun K hK => ?_; simp (maxSteps := 4000000) only [go_sem, m1]; (repeat (first | (refine ⟨_, .lent (hf := h15) (hd := rfl) (hr := rfl), ?_⟩; simp (maxSteps := 4000000) only [go_sem, m1]) | (refine ⟨_, .given (hf := h15) (hd := rfl) (ha := rfl), ?_⟩; simp (maxSteps := 4000000) only [go_sem, m1]))); refine hK _ ?_; clear hK K) | refine walkL_nil ?_ | refine walkL_ret ?_ | refine walkL_exit ?_ | refine blockA_here ?_ | refine blockA_other rfl ?_ | refine blockA_ret ?_ | refine blockA_normal ?_ | refine thenA_ret ?_ | refine thenA_exit ?_ | refine thenA_normal ?_)
              simp (maxSteps := 4000000) only [go_sem]
    · have he := hpo.2 hown
      subst he
      have hcc : p.charge < c := Classical.byContradiction fun h => hown (eC_mono hz hc01.1 (by omega) hch.2 hce)
      have c3 : decide (p.charge ≥ c) = false := by simp; omega
      rcases spare_spec hz with ⟨hsp, _⟩ | ⟨s, _, hs01, hse, _⟩
      · rw [hsp] at h24
        cases hd1 : decide (less ≥ 0)
        · refine fn_walk 184 Try.call6 Try.func6 rfl (by decide) fun J => ?_
          simp (maxSteps := 4000000) only [go_sem, St.start, Try.ntmps6, Try.results6, Plant.cells]
          repeat (first | refine walkL_true rfl ?_ | refine walkL_false rfl ?_ | refine walkL_seq ?_ | refine walkL_skip ?_ | refine walkL_block ?_ | (refine walkL_region fun K hK => ?_; simp (maxSteps := 4000000) only [go_sem, c1, c2, c3, hd1]; (repeat (first | (refine ⟨_, .lent (hf := h14) (hd := rfl) (hr := rfl), ?_⟩; simp (maxSteps := 4000000) only [go_sem, c1, c2, c3, hd1]) | (refine ⟨_, .lent (hf := h15) (hd := rfl) (hr := rfl), ?_⟩; simp (maxSteps := 4000000) only [go_sem, c1, c2, c3, hd1]) | (refine ⟨_, .lent (hf := h17) (hd := rfl) (hr := rfl), ?_⟩; simp (maxSteps := 4000000) only [go_sem, c1, c2, c3, hd1]) | (refine ⟨_, .lent (hf := h24) (hd := rfl) (hr := rfl), ?_⟩; simp (maxSteps := 4000000) only [go_sem, c1, c2, c3, hd1]) | (refine ⟨_, .lent (hf := h25) (hd := rfl) (hr := rfl), ?_⟩; simp (maxSteps := 4000000) only [go_sem, c1, c2, c3, hd1]) | (refine ⟨_, .lent (hf := h17a) (hd := rfl) (hr := rfl), ?_⟩; simp (maxSteps := 4000000) only [go_sem, c1, c2, c3, hd1]) | (refine ⟨_, .given (hf := h14) (hd := rfl) (ha := rfl), ?_⟩; simp (maxSteps := 4000000) only [go_sem, c1, c2, c3, hd1]) | (refine ⟨_, .given (hf := h15) (hd := rfl) (ha := rfl), ?_⟩; simp (maxSteps := 4000000) only [go_sem, c1, c2, c3, hd1]) | (refine ⟨_, .given (hf := h17) (hd := rfl) (ha := rfl), ?_⟩; simp (maxSteps := 4000000) only [go_sem, c1, c2, c3, hd1]) | (refine ⟨_, .given (hf := h24) (hd := rfl) (ha := rfl), ?_⟩; simp (maxSteps := 4000000) only [go_sem, c1, c2, c3, hd1]) | (refine ⟨_, .given (hf := h25) (hd := rfl) (ha := rfl), ?_⟩; simp (maxSteps := 4000000) only [go_sem, c1, c2, c3, hd1]) | (refine ⟨_, .given (hf := h17a) (hd := rfl) (ha := rfl), ?_⟩; simp (maxSteps := 4000000) only [go_sem, c1, c2, c3, hd1]))); refine hK _ ?_; clear hK K) | refine walkL_nil ?_ | refine walkL_ret ?_ | refine walkL_exit ?_ | refine blockA_here ?_ | refine blockA_other rfl ?_ | refine blockA_ret ?_ | refine blockA_normal ?_ | refine thenA_ret ?_ | refine thenA_exit ?_ | refine thenA_normal ?_)
          simp (maxSteps := 4000000) only [go_sem]
        · cases hd2 : decide (less < c)
          · refine fn_walk 184 Try.call6 Try.func6 rfl (by decide) fun J => ?_
            simp (maxSteps := 4000000) only [go_sem, St.start, Try.ntmps6, Try.results6, Plant.cells]
            repeat (first | refine walkL_true rfl ?_ | refine walkL_false rfl ?_ | refine walkL_seq ?_ | refine walkL_skip ?_ | refine walkL_block ?_ | (refine walkL_region fun K hK => ?_; simp (maxSteps := 4000000) only [go_sem, c1, c2, c3, hd1, hd2]; (repeat (first | (refine ⟨_, .lent (hf := h14) (hd := rfl) (hr := rfl), ?_⟩; simp (maxSteps := 4000000) only [go_sem, c1, c2, c3, hd1, hd2]) | (refine ⟨_, .lent (hf := h15) (hd := rfl) (hr := rfl), ?_⟩; simp (maxSteps := 4000000) only [go_sem, c1, c2, c3, hd1, hd2]) | (refine ⟨_, .lent (hf := h17) (hd := rfl) (hr := rfl), ?_⟩; simp (maxSteps := 4000000) only [go_sem, c1, c2, c3, hd1, hd2]) | (refine ⟨_, .lent (hf := h24) (hd := rfl) (hr := rfl), ?_⟩; simp (maxSteps := 4000000) only [go_sem, c1, c2, c3, hd1, hd2]) | (refine ⟨_, .lent (hf := h25) (hd := rfl) (hr := rfl), ?_⟩; simp (maxSteps := 4000000) only [go_sem, c1, c2, c3, hd1, hd2]) | (refine ⟨_, .lent (hf := h17a) (hd := rfl) (hr := rfl), ?_⟩; simp (maxSteps := 4000000) only [go_sem, c1, c2, c3, hd1, hd2]) | (refine ⟨_, .given (hf := h14) (hd := rfl) (ha := rfl), ?_⟩; simp (maxSteps := 4000000) only [go_sem, c1, c2, c3, hd1, hd2]) | (refine ⟨_, .given (hf := h15) (hd := rfl) (ha := rfl), ?_⟩; simp (maxSteps := 4000000) only [go_sem, c1, c2, c3, hd1, hd2]) | (refine ⟨_, .given (hf := h17) (hd := rfl) (ha := rfl), ?_⟩; simp (maxSteps := 4000000) only [go_sem, c1, c2, c3, hd1, hd2]) | (refine ⟨_, .given (hf := h24) (hd := rfl) (ha := rfl), ?_⟩; simp (maxSteps := 4000000) only [go_sem, c1, c2, c3, hd1, hd2]) | (refine ⟨_, .given (hf := h25) (hd := rfl) (ha := rfl), ?_⟩; simp (maxSteps := 4000000) only [go_sem, c1, c2, c3, hd1, hd2]) | (refine ⟨_, .given (hf := h17a) (hd := rfl) (ha := rfl), ?_⟩; simp (maxSteps := 4000000) only [go_sem, c1, c2, c3, hd1, hd2]))); refine hK _ ?_; clear hK K) | refine walkL_nil ?_ | refine walkL_ret ?_ | refine walkL_exit ?_ | refine blockA_here ?_ | refine blockA_other rfl ?_ | refine blockA_ret ?_ | refine blockA_normal ?_ | refine thenA_ret ?_ | refine thenA_exit ?_ | refine thenA_normal ?_)
            simp (maxSteps := 4000000) only [go_sem]
          · have k1 := of_decide_eq_true hd1
            have k2 := of_decide_eq_true hd2
            obtain ⟨lb, lu, le, h1, _, h3⟩ := hC less (by omega) (by omega)
            have := h3 (hcmin less (by omega) k2)
            subst this
            have h17l := h17c less
            rw [h1] at h17l
            refine fn_walk 184 Try.call6 Try.func6 rfl (by decide) fun J => ?_
            simp (maxSteps := 4000000) only [go_sem, St.start, Try.ntmps6, Try.results6, Plant.cells]
            repeat (first | refine walkL_true rfl ?_ | refine walkL_false rfl ?_ | refine walkL_seq ?_ | refine walkL_skip ?_ | refine walkL_block ?_ | (refine walkL_region fun K hK => ?_; simp (maxSteps := 4000000) only [go_sem, c1, c2, c3, hd1, hd2]; (repeat (first | (refine ⟨_, .lent (hf := h14) (hd := rfl) (hr := rfl), ?_⟩; simp (maxSteps := 4000000) only [go_sem, c1, c2, c3, hd1, hd2]) | (refine ⟨_, .lent (hf := h15) (hd := rfl) (hr := rfl), ?_⟩; simp (maxSteps := 4000000) only [go_sem, c1, c2, c3, hd1, hd2]) | (refine ⟨_, .lent (hf := h17) (hd := rfl) (hr := rfl), ?_⟩; simp (maxSteps := 4000000) only [go_sem, c1, c2, c3, hd1, hd2]) | (refine ⟨_, .lent (hf := h24) (hd := rfl) (hr := rfl), ?_⟩; simp (maxSteps := 4000000) only [go_sem, c1, c2, c3, hd1, hd2]) | (refine ⟨_, .lent (hf := h25) (hd := rfl) (hr := rfl), ?_⟩; simp (maxSteps := 4000000) only [go_sem, c1, c2, c3, hd1, hd2]) | (refine ⟨_, .lent (hf := h17a) (hd := rfl) (hr := rfl), ?_⟩; simp (maxSteps := 4000000) only [go_sem, c1, c2, c3, hd1, hd2]) | (refine ⟨_, .lent (hf := h17l) (hd := rfl) (hr := rfl), ?_⟩; simp (maxSteps := 4000000) only [go_sem, c1, c2, c3, hd1, hd2]) | (refine ⟨_, .given (hf := h14) (hd := rfl) (ha := rfl), ?_⟩; simp (maxSteps := 4000000) only [go_sem, c1, c2, c3, hd1, hd2]) | (refine ⟨_, .given (hf := h15) (hd := rfl) (ha := rfl), ?_⟩; simp (maxSteps := 4000000) only [go_sem, c1, c2, c3, hd1, hd2]) | (refine ⟨_, .given (hf := h17) (hd := rfl) (ha := rfl), ?_⟩; simp (maxSteps := 4000000) only [go_sem, c1, c2, c3, hd1, hd2]) | (refine ⟨_, .given (hf := h24) (hd := rfl) (ha := rfl), ?_⟩; simp (maxSteps := 4000000) only [go_sem, c1, c2, c3, hd1, hd2]) | (refine ⟨_, .given (hf := h25) (hd := rfl) (ha := rfl), ?_⟩; simp (maxSteps := 4000000) only [go_sem, c1, c2, c3, hd1, hd2]) | (refine ⟨_, .given (hf := h17a) (hd := rfl) (ha := rfl), ?_⟩; simp (maxSteps := 4000000) only [go_sem, c1, c2, c3, hd1, hd2]) | (refine ⟨_, .given (hf := h17l) (hd := rfl) (ha := rfl), ?_⟩; simp (maxSteps := 4000000) only [go_sem, c1, c2, c3, hd1, hd2]))); refine hK _ ?_; clear hK K) | refine walkL_nil ?_ | refine walkL_ret ?_ | refine walkL_exit ?_ | refine blockA_here ?_ | refine blockA_other rfl ?_ | refine blockA_ret ?_ | refine blockA_normal ?_ | refine thenA_ret ?_ | refine thenA_exit ?_ | refine thenA_normal ?_)
            simp (maxSteps := 4000000) only [go_sem]
      · exact absurd ((eN_own hz).1 (eN_mono hz (Int.le_refl _) hs01.1 hs01.2 hse)) hown
end Go.Ab
