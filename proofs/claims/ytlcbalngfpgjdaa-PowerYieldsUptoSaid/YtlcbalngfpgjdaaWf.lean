/- A walk engine over abstract states, and the contracts of the functions that the statement reaches: part 6. -/
import Derived.Test.YtlcbalngfpgjdaaWe
set_option linter.unusedVariables false
set_option linter.unusedSimpArgs false
namespace Go.Ab
open Go.RowKit Go.Proofs
set_option maxHeartbeats 8000000
set_option maxRecDepth 20000
attribute [local irreducible] WalkL Walk

/-! ### The document's Spare and Least -/

def updN (f : Int → Int) (l : List Int) (i : Nat) : List Int := (l.take i).map f ++ l.drop i
theorem updN_len (f : Int → Int) (l : List Int) (i : Nat) : (updN f l i).length = l.length := by simp [updN]; omega
theorem updN_get (f : Int → Int) {l : List Int} {i : Nat} {x : Int} (h : l[i]? = some x) : (updN f l i)[i]? = some x := by
  have hl := (List.getElem?_eq_some_iff.1 h).1
  unfold updN
  rw [List.getElem?_append_right (by rw [List.length_map, List.length_take]; omega)]
  simp only [List.length_map, List.length_take]
  rw [show i - min i l.length = 0 by omega, drop_get h]
  rfl
theorem updN_set (f : Int → Int) {l : List Int} {i : Nat} {x : Int} (h : l[i]? = some x) : (updN f l i).set i (f x) = updN f l (i + 1) := by
  have hl := (List.getElem?_eq_some_iff.1 h).1
  unfold updN
  rw [List.set_append_right _ _ (by rw [List.length_map, List.length_take]; omega)]
  simp only [List.length_map, List.length_take]
  rw [show i - min i l.length = 0 by omega, drop_get h, List.set_cons_zero, List.take_add_one, h]
  simp
theorem updN_zero (f : Int → Int) (l : List Int) : updN f l 0 = l := by simp [updN]
theorem updN_all (f : Int → Int) (l : List Int) : updN f l l.length = l.map f := by simp [updN]

theorem f59 (p : Plant) (m : Int) (hs : PlantSmall p) : Fn Try.prog 59 [.agg p.cells, .i m] (.agg (needsP p m).cells) := by
  have hn := hs.needs
  have h1 : p.needs.length ≤ 549755813888 := by omega
  obtain ⟨f, hf⟩ : ∃ f : Int → Int, f = fun n => wr (n + m) := ⟨_, rfl⟩
  have e0 : (needsP p m).cells = [.sl (scenRows p.scen), .sl (sightRows p.seen), .sl (intRows p.sun), .i p.gain, .i p.start, .i p.stop, .i p.charge, .i p.capacity, .i p.reserve, .i p.gas, .i p.rate, .i p.units, .sl (intRows (p.needs.map f))] := by rw [hf]; rfl
  rw [e0]
  refine fn_walk 27 Try.call59 Try.func59 rfl (by decide) fun J => ?_
  simp (maxSteps := 4000000) only [go_sem, St.start, Try.ntmps59, Try.results59, Plant.cells]
  repeat (first | refine walkL_seq ?_ | refine walkL_skip ?_ | refine walkL_block ?_ | (refine walkL_region fun K hK => ?_; simp (maxSteps := 4000000) only [go_sem, h1, List.nil_append]; refine hK _ ?_; clear hK K) | refine walkL_nil ?_ | refine walkL_ret ?_ | refine walkL_exit ?_ | refine blockA_here ?_ | refine blockA_other rfl ?_ | refine blockA_ret ?_ | refine blockA_normal ?_ | refine thenA_ret ?_ | refine thenA_exit ?_ | refine thenA_normal ?_)
  refine walkL_loopS (fun (i : Nat) => [(6, .d (.i i))]) (fun i => [(7, some (.arr 3 1 (intRows (updN f p.needs i))))]) (fun i => i ≤ p.needs.length) (fun i => p.needs.length - i) 0 ?_ (Nat.zero_le _) ?_
  · simp (maxSteps := 4000000) only [go_sem, updN_zero]
    refine weak_of [] ?_ ?_ rfl rfl <;> simp [lessT, lessM, lessB, AV.less]
    all_goals first | done | rfl | exact ⟨rfl, rfl⟩ | rw [updN_zero]
  · intro i hi
    simp (maxSteps := 4000000) only [go_sem, updN_len]
    repeat (first | refine walkL_seq ?_ | refine walkL_skip ?_ | refine walkL_block ?_ | (refine walkL_region fun K hK => ?_; simp (maxSteps := 4000000) only [go_sem, updN_len]; refine hK _ ?_; clear hK K) | refine walkL_nil ?_ | refine walkL_ret ?_ | refine walkL_exit ?_ | refine blockA_here ?_ | refine blockA_other rfl ?_ | refine blockA_ret ?_ | refine blockA_normal ?_ | refine thenA_ret ?_ | refine thenA_exit ?_ | refine thenA_normal ?_)
    refine walkL_cond rfl (fun hb => ?_) (fun hb => ?_)
    · have hlt : i < p.needs.length := by simpa using hb
      have hw : IntKind.i64.wrap ((i : Int) + 1) = ((i + 1 : Nat) : Int) := by rw [wr_small (by omega)]; simp
      obtain ⟨x, hx⟩ : ∃ x, p.needs[i]? = some x := ⟨_, List.getElem?_eq_getElem hlt⟩
      have g1 := intRows_at (updN_get f hx)
      have hfx : IntKind.i64.wrap (x + m) = f x := by rw [hf]
      repeat (first | refine walkL_seq ?_ | refine walkL_skip ?_ | refine walkL_block ?_ | (refine walkL_region fun K hK => ?_; simp (maxSteps := 4000000) only [go_sem, g1, hw, updN_len, hfx, hlt]; refine hK _ ?_; clear hK K) | refine walkL_nil ?_ | refine walkL_ret ?_ | refine walkL_exit ?_ | refine blockA_here ?_ | refine blockA_other rfl ?_ | refine blockA_ret ?_ | refine blockA_normal ?_ | refine thenA_ret ?_ | refine thenA_exit ?_ | refine thenA_normal ?_)
      refine ⟨rfl, i + 1, ?_, hlt, by omega⟩
      rw [← updN_set f hx, intRows_set]
      refine weak_of [] ?_ ?_ rfl rfl <;> simp [lessT, lessM, lessB, AV.less]
      all_goals first | done | rfl | exact ⟨rfl, rfl⟩
    · have he : i = p.needs.length := by (have : ¬ i < p.needs.length := by simpa using hb); omega
      subst he
      rw [updN_all]
      repeat (first | refine walkL_seq ?_ | refine walkL_skip ?_ | refine walkL_block ?_ | (refine walkL_region fun K hK => ?_; simp (maxSteps := 4000000) only [go_sem]; refine hK _ ?_; clear hK K) | refine walkL_nil ?_ | refine walkL_ret ?_ | refine walkL_exit ?_ | refine blockA_here ?_ | refine blockA_other rfl ?_ | refine blockA_ret ?_ | refine blockA_normal ?_ | refine thenA_ret ?_ | refine thenA_exit ?_ | refine thenA_normal ?_)
      simp (maxSteps := 4000000) only [go_sem]

theorem needs_zero {p : Plant} (h10 : ∀ x ∈ p.needs, 0 ≤ x ∧ x ≤ 10000) : needsP p 0 = p := by
  have : p.needs.map (fun n => wr (n + 0)) = p.needs := by
    refine (List.map_congr_left fun x hx => ?_).trans (List.map_id _)
    have := h10 x hx
    show wr (x + 0) = x
    rw [Int.add_zero]
    exact wr_small (by omega)
  unfold needsP
  rw [this]

theorem small_needs {p : Plant} (hs : PlantSmall p) (m : Int) : PlantSmall (needsP p m) := ⟨hs.fore, hs.seen, hs.sun, by simpa [needsP] using hs.needs⟩

theorem spareP_bad {p : Plant} (hz : plantE p ≠ 0) : spareP p = (0, plantE p) := by unfold spareP; rw [openE_nil, if_neg hz]
theorem leastP_bad {p : Plant} (hz : plantE p ≠ 0) : leastP p = (0, plantE p) := by unfold leastP; rw [openE_nil, if_neg hz]

theorem f27 (p : Plant) (hs : PlantSmall p) (hf : far10 p = false) : Fn Try.prog 27 [.agg p.cells] (.tup [.i (spareP p).1, .i (spareP p).2]) := by
  have h36 := f36 p hs
  by_cases hz : plantE p = 0
  · obtain ⟨hH, hr⟩ := far_small hf hz
    have hg := plant_good hz
    have h10 := needs_10 hz
    have hrate := hg.rate
    have hunits := hg.units
    have h47 := f47 p hH (by omega) p.sun.length [] p.units (by simp) (by omega)
    have h48 := f48 p hs hg
    change Fn Try.prog 47 _ (.sl (listRows (allP p))) at h47
    have hall := allP_burn hg
    have hlen : (allP p).length ≤ 3 ^ 5 := Nat.le_trans (burnsF_len (by omega) _ _ _ hunits.1) (Nat.pow_le_pow_right (by decide) hH)
    have hrl := rowsP_len hg
    have hrm := rowsP_mem hg
    have hnl := hg.needs
    have hsl := hg.sun
    have h58 : ∀ m, Fn Try.prog 58 [.agg (needsP p m).cells, .sl (listRows (allP p)), .sl (listRows (rowsP p))] (.bool ((allP p).any fun b => lastsR (needsP p m) b (rowsP p) == p.sun.length)) := fun m =>
      f58 (needsP p m) (allP p) (rowsP p) hs.sun (by omega) (by omega) (fun b hb r hr => by
        have h1 := hrm r hr
        have h2 := (isBurn_iff.1 (hall b hb)).2.1
        have h3 : (needsP p m).needs.length = p.needs.length := by simp [needsP]
        omega)
    have hany : ∀ m, 0 ≤ m → m ≤ 10000 → (((allP p).any fun b => lastsR (needsP p m) b (rowsP p) == p.sun.length) = true ↔ eN p m) := fun m h0 h1 =>
      any_iff hg (good_needs hg h10 ⟨h0, h1⟩) (fun _ => rfl) rfl rfl
    have h580 := h58 0
    have hany0 := hany 0 (by omega) (by omega)
    rw [needs_zero h10] at h580 hany0
    obtain ⟨S, hS⟩ : ∃ S, S = spareP p := ⟨_, rfl⟩
    have hsp := spare_spec hz
    rw [← hS] at hsp ⊢
    obtain ⟨L, hL⟩ : ∃ L, L = allP p := ⟨_, rfl⟩
    obtain ⟨R, hR⟩ : ∃ R, R = rowsP p := ⟨_, rfl⟩
    rw [← hL] at h47 h580 hany0
    rw [← hL, ← hR] at h58 hany
    rw [← hR] at h48 h580 hany0
    rw [hz] at h36
    rw [Plant.cells] at h36 h47 h48 h580
    have e0 : intRows [] = [] := rfl
    rw [e0] at h47
    have e1 : ∀ m, (needsP p m).cells = [.sl (scenRows p.scen), .sl (sightRows p.seen), .sl (intRows p.sun), .i p.gain, .i p.start, .i p.stop, .i p.charge, .i p.capacity, .i p.reserve, .i p.gas, .i p.rate, .i p.units, .sl (intRows (needsP p m).needs)] := fun m => rfl
    rcases hsp with ⟨rfl, hno⟩ | ⟨s, rfl, hs01, hes, hmax⟩
    · have q : (L.any fun b => lastsR p b R == p.sun.length) = false := by
        cases h : (L.any fun b => lastsR p b R == (p.sun.length : Int)) with
        | false => rfl
        | true => exact absurd (hany0.1 h) hno
      rw [q] at h580
      refine fn_walk 44 Try.call27 Try.func27 rfl (by decide) fun J => ?_
      simp (maxSteps := 4000000) only [go_sem, St.start, Try.ntmps27, Try.results27, Plant.cells]
      repeat (first | refine walkL_true rfl ?_ | refine walkL_false rfl ?_ | refine walkL_seq ?_ | refine walkL_skip ?_ | refine walkL_block ?_ | (refine walkL_region fun K hK => ?_; simp (maxSteps := 4000000) only [go_sem]; (repeat (first | (refine ⟨_, .lent (hf := h36) (hd := rfl) (hr := rfl), ?_⟩; simp (maxSteps := 4000000) only [go_sem]) | (refine ⟨_, .given (hf := h36) (hd := rfl) (ha := rfl), ?_⟩; simp (maxSteps := 4000000) only [go_sem]))); refine hK _ ?_; clear hK K) | refine walkL_nil ?_ | refine walkL_ret ?_ | refine walkL_exit ?_ | refine blockA_here ?_ | refine blockA_other rfl ?_ | refine blockA_ret ?_ | refine blockA_normal ?_ | refine thenA_ret ?_ | refine thenA_exit ?_ | refine thenA_normal ?_)
      refine walkL_drawn (by kernel_rfl) (by kernel_rfl) fun K hK => ?_
      simp (maxSteps := 4000000) only [go_sem]
      refine ⟨_, .fn (hf := h47) (hd := rfl) (hr := .inr rfl), ?_⟩
      simp (maxSteps := 4000000) only [go_sem]
      refine ⟨_, .fn (hf := h48) (hd := rfl) (hr := .inr rfl), ?_⟩
      simp (maxSteps := 4000000) only [go_sem]
      refine ⟨by kernel_rfl, hK _ ?_⟩
      clear hK K
      repeat (first | refine walkL_true rfl ?_ | refine walkL_false rfl ?_ | refine walkL_seq ?_ | refine walkL_skip ?_ | refine walkL_block ?_ | (refine walkL_region fun K hK => ?_; simp (maxSteps := 4000000) only [go_sem]; (repeat (first | (refine ⟨_, .lent (hf := h580) (hd := rfl) (hr := rfl), ?_⟩; simp (maxSteps := 4000000) only [go_sem]) | (refine ⟨_, .given (hf := h580) (hd := rfl) (ha := rfl), ?_⟩; simp (maxSteps := 4000000) only [go_sem]))); refine hK _ ?_; clear hK K) | refine walkL_nil ?_ | refine walkL_ret ?_ | refine walkL_exit ?_ | refine blockA_here ?_ | refine blockA_other rfl ?_ | refine blockA_ret ?_ | refine blockA_normal ?_ | refine thenA_ret ?_ | refine thenA_exit ?_ | refine thenA_normal ?_)
      simp (maxSteps := 4000000) only [go_sem]
    · have q := hany0.2 (eN_mono hz (Int.le_refl _) hs01.1 hs01.2 hes)
      rw [q] at h580
      refine fn_walk 44 Try.call27 Try.func27 rfl (by decide) fun J => ?_
      simp (maxSteps := 4000000) only [go_sem, St.start, Try.ntmps27, Try.results27, Plant.cells]
      repeat (first | refine walkL_true rfl ?_ | refine walkL_false rfl ?_ | refine walkL_seq ?_ | refine walkL_skip ?_ | refine walkL_block ?_ | (refine walkL_region fun K hK => ?_; simp (maxSteps := 4000000) only [go_sem]; (repeat (first | (refine ⟨_, .lent (hf := h36) (hd := rfl) (hr := rfl), ?_⟩; simp (maxSteps := 4000000) only [go_sem]) | (refine ⟨_, .given (hf := h36) (hd := rfl) (ha := rfl), ?_⟩; simp (maxSteps := 4000000) only [go_sem]))); refine hK _ ?_; clear hK K) | refine walkL_nil ?_ | refine walkL_ret ?_ | refine walkL_exit ?_ | refine blockA_here ?_ | refine blockA_other rfl ?_ | refine blockA_ret ?_ | refine blockA_normal ?_ | refine thenA_ret ?_ | refine thenA_exit ?_ | refine thenA_normal ?_)
      refine walkL_drawn (by kernel_rfl) (by kernel_rfl) fun K hK => ?_
      simp (maxSteps := 4000000) only [go_sem]
      refine ⟨_, .fn (hf := h47) (hd := rfl) (hr := .inr rfl), ?_⟩
      simp (maxSteps := 4000000) only [go_sem]
      refine ⟨_, .fn (hf := h48) (hd := rfl) (hr := .inr rfl), ?_⟩
      simp (maxSteps := 4000000) only [go_sem]
      refine ⟨by kernel_rfl, hK _ ?_⟩
      clear hK K
      repeat (first | refine walkL_true rfl ?_ | refine walkL_false rfl ?_ | refine walkL_seq ?_ | refine walkL_skip ?_ | refine walkL_block ?_ | (refine walkL_region fun K hK => ?_; simp (maxSteps := 4000000) only [go_sem]; (repeat (first | (refine ⟨_, .lent (hf := h580) (hd := rfl) (hr := rfl), ?_⟩; simp (maxSteps := 4000000) only [go_sem]) | (refine ⟨_, .given (hf := h580) (hd := rfl) (ha := rfl), ?_⟩; simp (maxSteps := 4000000) only [go_sem]))); refine hK _ ?_; clear hK K) | refine walkL_nil ?_ | refine walkL_ret ?_ | refine walkL_exit ?_ | refine blockA_here ?_ | refine blockA_other rfl ?_ | refine blockA_ret ?_ | refine blockA_normal ?_ | refine thenA_ret ?_ | refine thenA_exit ?_ | refine thenA_normal ?_)
      refine walkL_loopS (fun (a : Int × Int) => [(7, .d (.i a.1)), (8, .d (.i a.2)), (9, .undef)]) (fun _ => []) (fun a => 0 ≤ a.1 ∧ a.1 ≤ s ∧ s ≤ a.2 ∧ a.2 ≤ 10000) (fun a => (a.2 - a.1).toNat) (0, 10000) ?_ ⟨Int.le_refl _, hs01.1, hs01.2, Int.le_refl _⟩ ?_
      · simp (maxSteps := 4000000) only [go_sem]
        refine weak_of [] ?_ ?_ rfl rfl <;> simp [lessT, lessM, lessB, AV.less]
      · rintro ⟨lo, hi⟩ ⟨k1, k2, k3, k4⟩
        dsimp only at k1 k2 k3 k4
        simp (maxSteps := 4000000) only [go_sem]
        repeat (first | refine walkL_seq ?_ | refine walkL_skip ?_ | refine walkL_block ?_ | (refine walkL_region fun K hK => ?_; simp (maxSteps := 4000000) only [go_sem]; refine hK _ ?_; clear hK K) | refine walkL_nil ?_ | refine walkL_ret ?_ | refine walkL_exit ?_ | refine blockA_here ?_ | refine blockA_other rfl ?_ | refine blockA_ret ?_ | refine blockA_normal ?_ | refine thenA_ret ?_ | refine thenA_exit ?_ | refine thenA_normal ?_)
        refine walkL_cond rfl (fun hb => ?_) (fun hb => ?_)
        · have hlt : lo < hi := by simpa using hb
          obtain ⟨mid, hmid⟩ : ∃ mid, mid = (lo + hi + 1) / 2 := ⟨_, rfl⟩
          have w1 : IntKind.i64.wrap (lo + hi) = lo + hi := wr_small (by omega)
          have w2 : IntKind.i64.wrap (lo + hi + 1) = lo + hi + 1 := wr_small (by omega)
          have w3 : (lo + hi + 1).tdiv 2 = mid := by rw [hmid]; exact Int.tdiv_eq_ediv_of_nonneg (by omega)
          have w4 : IntKind.i64.wrap mid = mid := wr_small (by omega)
          have w5 : IntKind.i64.wrap (mid - 1) = mid - 1 := wr_small (by omega)
          have h59 := f59 p mid hs
          have h58m := h58 mid
          have hanym := hany mid (by omega) (by omega)
          rw [e1] at h59 h58m
          rw [Plant.cells] at h59
          cases q2 : (L.any fun b => lastsR (needsP p mid) b R == (p.sun.length : Int))
          · rw [q2] at h58m hanym
            have hne : ¬ mid ≤ s := fun h => by
              have := hanym.2 (eN_mono hz (by omega) h hs01.2 hes)
              cases this
            repeat (first | refine walkL_true rfl ?_ | refine walkL_false rfl ?_ | refine walkL_seq ?_ | refine walkL_skip ?_ | refine walkL_block ?_ | (refine walkL_region fun K hK => ?_; simp (maxSteps := 4000000) only [go_sem, w1, w2, w3, w4, w5]; (repeat (first | (refine ⟨_, .lent (hf := h59) (hd := rfl) (hr := rfl), ?_⟩; simp (maxSteps := 4000000) only [go_sem, w1, w2, w3, w4, w5]) | (refine ⟨_, .lent (hf := h58m) (hd := rfl) (hr := rfl), ?_⟩; simp (maxSteps := 4000000) only [go_sem, w1, w2, w3, w4, w5]) | (refine ⟨_, .given (hf := h59) (hd := rfl) (ha := rfl), ?_⟩; simp (maxSteps := 4000000) only [go_sem, w1, w2, w3, w4, w5]) | (refine ⟨_, .given (hf := h58m) (hd := rfl) (ha := rfl), ?_⟩; simp (maxSteps := 4000000) only [go_sem, w1, w2, w3, w4, w5]))); refine hK _ ?_; clear hK K) | refine walkL_nil ?_ | refine walkL_ret ?_ | refine walkL_exit ?_ | refine blockA_here ?_ | refine blockA_other rfl ?_ | refine blockA_ret ?_ | refine blockA_normal ?_ | refine thenA_ret ?_ | refine thenA_exit ?_ | refine thenA_normal ?_)
            refine ⟨rfl, (lo, mid - 1), ?_, ⟨k1, k2, by dsimp only; omega, by dsimp only; omega⟩, by dsimp only; omega⟩
            refine weak_of [] ?_ ?_ rfl rfl <;> simp [lessT, lessM, lessB, AV.less]
          · rw [q2] at h58m hanym
            have he := hanym.1 rfl
            have hle : mid ≤ s := Classical.byContradiction fun h => hmax mid (by omega) (by omega) he
            repeat (first | refine walkL_true rfl ?_ | refine walkL_false rfl ?_ | refine walkL_seq ?_ | refine walkL_skip ?_ | refine walkL_block ?_ | (refine walkL_region fun K hK => ?_; simp (maxSteps := 4000000) only [go_sem, w1, w2, w3, w4, w5]; (repeat (first | (refine ⟨_, .lent (hf := h59) (hd := rfl) (hr := rfl), ?_⟩; simp (maxSteps := 4000000) only [go_sem, w1, w2, w3, w4, w5]) | (refine ⟨_, .lent (hf := h58m) (hd := rfl) (hr := rfl), ?_⟩; simp (maxSteps := 4000000) only [go_sem, w1, w2, w3, w4, w5]) | (refine ⟨_, .given (hf := h59) (hd := rfl) (ha := rfl), ?_⟩; simp (maxSteps := 4000000) only [go_sem, w1, w2, w3, w4, w5]) | (refine ⟨_, .given (hf := h58m) (hd := rfl) (ha := rfl), ?_⟩; simp (maxSteps := 4000000) only [go_sem, w1, w2, w3, w4, w5]))); refine hK _ ?_; clear hK K) | refine walkL_nil ?_ | refine walkL_ret ?_ | refine walkL_exit ?_ | refine blockA_here ?_ | refine blockA_other rfl ?_ | refine blockA_ret ?_ | refine blockA_normal ?_ | refine thenA_ret ?_ | refine thenA_exit ?_ | refine thenA_normal ?_)
            refine ⟨rfl, (mid, hi), ?_, ⟨by dsimp only; omega, hle, k3, k4⟩, by dsimp only; omega⟩
            refine weak_of [] ?_ ?_ rfl rfl <;> simp [lessT, lessM, lessB, AV.less]
        · have hge : ¬ lo < hi := by simpa using hb
          have : lo = s := by omega
          subst this
          repeat (first | refine walkL_seq ?_ | refine walkL_skip ?_ | refine walkL_block ?_ | (refine walkL_region fun K hK => ?_; simp (maxSteps := 4000000) only [go_sem]; refine hK _ ?_; clear hK K) | refine walkL_nil ?_ | refine walkL_ret ?_ | refine walkL_exit ?_ | refine blockA_here ?_ | refine blockA_other rfl ?_ | refine blockA_ret ?_ | refine blockA_normal ?_ | refine thenA_ret ?_ | refine thenA_exit ?_ | refine thenA_normal ?_)
          simp (maxSteps := 4000000) only [go_sem]
  · rw [spareP_bad hz]
    rw [Plant.cells] at h36
    obtain ⟨e, he⟩ : ∃ e, e = plantE p := ⟨_, rfl⟩
    rw [← he] at h36 hz ⊢
    have q : (e != 0) = true := by simpa using hz
    refine fn_walk 44 Try.call27 Try.func27 rfl (by decide) fun J => ?_
    simp (maxSteps := 4000000) only [go_sem, St.start, Try.ntmps27, Try.results27, Plant.cells]
    repeat (first | refine walkL_true rfl ?_ | refine walkL_false rfl ?_ | refine walkL_seq ?_ | refine walkL_skip ?_ | refine walkL_block ?_ | (refine walkL_region fun K hK => ?_; simp (maxSteps := 4000000) only [go_sem, q]; (repeat (first | (refine ⟨_, .lent (hf := h36) (hd := rfl) (hr := rfl), ?_⟩; simp (maxSteps := 4000000) only [go_sem, q]) | (refine ⟨_, .given (hf := h36) (hd := rfl) (ha := rfl), ?_⟩; simp (maxSteps := 4000000) only [go_sem, q]))); refine hK _ ?_; clear hK K) | refine walkL_nil ?_ | refine walkL_ret ?_ | refine walkL_exit ?_ | refine blockA_here ?_ | refine blockA_other rfl ?_ | refine blockA_ret ?_ | refine blockA_normal ?_ | refine thenA_ret ?_ | refine thenA_exit ?_ | refine thenA_normal ?_)
    simp (maxSteps := 4000000) only [go_sem]
end Go.Ab
namespace Go.Ab
open Go.RowKit Go.Proofs
set_option maxHeartbeats 8000000
set_option maxRecDepth 20000
attribute [local irreducible] WalkL Walk

theorem f28 (p : Plant) (hs : PlantSmall p) (hf : far10 p = false) : Fn Try.prog 28 [.agg p.cells] (.tup [.i (leastP p).1, .i (leastP p).2]) := by
  have h36 := f36 p hs
  by_cases hz : plantE p = 0
  · obtain ⟨hH, hr⟩ := far_small hf hz
    have hg := plant_good hz
    have hrate := hg.rate
    have hunits := hg.units
    have hcap := hg.capacity
    have h47 := f47 p hH (by omega) p.sun.length [] p.units (by simp) (by omega)
    have h48 := f48 p hs hg
    change Fn Try.prog 47 _ (.sl (listRows (allP p))) at h47
    have hall := allP_burn hg
    have hlen : (allP p).length ≤ 3 ^ 5 := Nat.le_trans (burnsF_len (by omega) _ _ _ hunits.1) (Nat.pow_le_pow_right (by decide) hH)
    have hrl := rowsP_len hg
    have hrm := rowsP_mem hg
    have hnl := hg.needs
    have hsl := hg.sun
    have h58 : ∀ c, Fn Try.prog 58 [.agg (chargeP p c).cells, .sl (listRows (allP p)), .sl (listRows (rowsP p))] (.bool ((allP p).any fun b => lastsR (chargeP p c) b (rowsP p) == p.sun.length)) := fun c =>
      f58 (chargeP p c) (allP p) (rowsP p) hs.sun (by omega) (by omega) (fun b hb r hr => by
        have h1 := hrm r hr
        have h2 := (isBurn_iff.1 (hall b hb)).2.1
        have h3 : (chargeP p c).needs.length = p.needs.length := rfl
        omega)
    have hany : ∀ c, 0 ≤ c → c ≤ p.capacity → (((allP p).any fun b => lastsR (chargeP p c) b (rowsP p) == p.sun.length) = true ↔ eC p c) := fun c h0 h1 =>
      any_iff hg (good_charge hg ⟨h0, h1⟩) (fun _ => rfl) rfl rfl
    obtain ⟨S, hS⟩ : ∃ S, S = leastP p := ⟨_, rfl⟩
    have hsp := least_spec hz
    rw [← hS] at hsp ⊢
    obtain ⟨L, hL⟩ : ∃ L, L = allP p := ⟨_, rfl⟩
    obtain ⟨R, hR⟩ : ∃ R, R = rowsP p := ⟨_, rfl⟩
    rw [← hL] at h47
    rw [← hL, ← hR] at h58 hany
    rw [← hR] at h48
    rw [hz] at h36
    have e1 : ∀ c, (chargeP p c).cells = [.sl (scenRows p.scen), .sl (sightRows p.seen), .sl (intRows p.sun), .i p.gain, .i p.start, .i p.stop, .i c, .i p.capacity, .i p.reserve, .i p.gas, .i p.rate, .i p.units, .sl (intRows p.needs)] := fun c => rfl
    have h58c := h58 p.capacity
    have hanyc := hany p.capacity hcap.1 (Int.le_refl _)
    rw [e1] at h58c
    rw [Plant.cells] at h36 h47 h48
    have e0 : intRows [] = [] := rfl
    rw [e0] at h47
    rcases hsp with ⟨rfl, hno⟩ | ⟨s, rfl, hs01, hes, hmin⟩
    · have q : (L.any fun b => lastsR (chargeP p p.capacity) b R == p.sun.length) = false := by
        cases h : (L.any fun b => lastsR (chargeP p p.capacity) b R == (p.sun.length : Int)) with
        | false => rfl
        | true => exact absurd (hanyc.1 h) hno
      rw [q] at h58c
      refine fn_walk 54 Try.call28 Try.func28 rfl (by decide) fun J => ?_
      simp (maxSteps := 4000000) only [go_sem, St.start, Try.ntmps28, Try.results28, Plant.cells]
      repeat (first | refine walkL_true rfl ?_ | refine walkL_false rfl ?_ | refine walkL_seq ?_ | refine walkL_skip ?_ | refine walkL_block ?_ | (refine walkL_region fun K hK => ?_; simp (maxSteps := 4000000) only [go_sem]; (repeat (first | (refine ⟨_, .lent (hf := h36) (hd := rfl) (hr := rfl), ?_⟩; simp (maxSteps := 4000000) only [go_sem]) | (refine ⟨_, .given (hf := h36) (hd := rfl) (ha := rfl), ?_⟩; simp (maxSteps := 4000000) only [go_sem]))); refine hK _ ?_; clear hK K) | refine walkL_nil ?_ | refine walkL_ret ?_ | refine walkL_exit ?_ | refine blockA_here ?_ | refine blockA_other rfl ?_ | refine blockA_ret ?_ | refine blockA_normal ?_ | refine thenA_ret ?_ | refine thenA_exit ?_ | refine thenA_normal ?_)
      refine walkL_drawn (by kernel_rfl) (by kernel_rfl) fun K hK => ?_
      simp (maxSteps := 4000000) only [go_sem]
      refine ⟨_, .fn (hf := h47) (hd := rfl) (hr := .inr rfl), ?_⟩
      simp (maxSteps := 4000000) only [go_sem]
      refine ⟨_, .fn (hf := h48) (hd := rfl) (hr := .inr rfl), ?_⟩
      simp (maxSteps := 4000000) only [go_sem]
      refine ⟨by kernel_rfl, hK _ ?_⟩
      clear hK K
      repeat (first | refine walkL_true rfl ?_ | refine walkL_false rfl ?_ | refine walkL_seq ?_ | refine walkL_skip ?_ | refine walkL_block ?_ | (refine walkL_region fun K hK => ?_; simp (maxSteps := 4000000) only [go_sem]; (repeat (first | (refine ⟨_, .lent (hf := h58c) (hd := rfl) (hr := rfl), ?_⟩; simp (maxSteps := 4000000) only [go_sem]) | (refine ⟨_, .given (hf := h58c) (hd := rfl) (ha := rfl), ?_⟩; simp (maxSteps := 4000000) only [go_sem]))); refine hK _ ?_; clear hK K) | refine walkL_nil ?_ | refine walkL_ret ?_ | refine walkL_exit ?_ | refine blockA_here ?_ | refine blockA_other rfl ?_ | refine blockA_ret ?_ | refine blockA_normal ?_ | refine thenA_ret ?_ | refine thenA_exit ?_ | refine thenA_normal ?_)
      simp (maxSteps := 4000000) only [go_sem]
    · have q := hanyc.2 (eC_mono hz hs01.1 hs01.2 (Int.le_refl _) hes)
      rw [q] at h58c
      refine fn_walk 54 Try.call28 Try.func28 rfl (by decide) fun J => ?_
      simp (maxSteps := 4000000) only [go_sem, St.start, Try.ntmps28, Try.results28, Plant.cells]
      repeat (first | refine walkL_true rfl ?_ | refine walkL_false rfl ?_ | refine walkL_seq ?_ | refine walkL_skip ?_ | refine walkL_block ?_ | (refine walkL_region fun K hK => ?_; simp (maxSteps := 4000000) only [go_sem]; (repeat (first | (refine ⟨_, .lent (hf := h36) (hd := rfl) (hr := rfl), ?_⟩; simp (maxSteps := 4000000) only [go_sem]) | (refine ⟨_, .given (hf := h36) (hd := rfl) (ha := rfl), ?_⟩; simp (maxSteps := 4000000) only [go_sem]))); refine hK _ ?_; clear hK K) | refine walkL_nil ?_ | refine walkL_ret ?_ | refine walkL_exit ?_ | refine blockA_here ?_ | refine blockA_other rfl ?_ | refine blockA_ret ?_ | refine blockA_normal ?_ | refine thenA_ret ?_ | refine thenA_exit ?_ | refine thenA_normal ?_)
      refine walkL_drawn (by kernel_rfl) (by kernel_rfl) fun K hK => ?_
      simp (maxSteps := 4000000) only [go_sem]
      refine ⟨_, .fn (hf := h47) (hd := rfl) (hr := .inr rfl), ?_⟩
      simp (maxSteps := 4000000) only [go_sem]
      refine ⟨_, .fn (hf := h48) (hd := rfl) (hr := .inr rfl), ?_⟩
      simp (maxSteps := 4000000) only [go_sem]
      refine ⟨by kernel_rfl, hK _ ?_⟩
      clear hK K
      repeat (first | refine walkL_true rfl ?_ | refine walkL_false rfl ?_ | refine walkL_seq ?_ | refine walkL_skip ?_ | refine walkL_block ?_ | (refine walkL_region fun K hK => ?_; simp (maxSteps := 4000000) only [go_sem]; (repeat (first | (refine ⟨_, .lent (hf := h58c) (hd := rfl) (hr := rfl), ?_⟩; simp (maxSteps := 4000000) only [go_sem]) | (refine ⟨_, .given (hf := h58c) (hd := rfl) (ha := rfl), ?_⟩; simp (maxSteps := 4000000) only [go_sem]))); refine hK _ ?_; clear hK K) | refine walkL_nil ?_ | refine walkL_ret ?_ | refine walkL_exit ?_ | refine blockA_here ?_ | refine blockA_other rfl ?_ | refine blockA_ret ?_ | refine blockA_normal ?_ | refine thenA_ret ?_ | refine thenA_exit ?_ | refine thenA_normal ?_)
      repeat (first | refine walkL_true rfl ?_ | refine walkL_false rfl ?_ | refine walkL_seq ?_ | refine walkL_skip ?_ | refine walkL_block ?_ | (refine walkL_region fun K hK => ?_; simp (maxSteps := 4000000) only [go_sem]; refine hK _ ?_; clear hK K) | (refine walkL_drawn (by kernel_rfl) (by kernel_rfl) fun K hK => ?_; simp (maxSteps := 4000000) only [go_sem]; refine ⟨by kernel_rfl, hK _ ?_⟩; clear hK K) | refine walkL_nil ?_ | refine walkL_ret ?_ | refine walkL_exit ?_ | refine blockA_here ?_ | refine blockA_other rfl ?_ | refine blockA_ret ?_ | refine blockA_normal ?_ | refine thenA_ret ?_ | refine thenA_exit ?_ | refine thenA_normal ?_)
      refine walkL_loopS (fun (a : Int × Int × Int) => [(7, .d (.i a.1)), (8, .d (.i a.2.1))]) (fun a => [(1, some (.box [.d (.sl (scenRows p.scen)), .d (.sl (sightRows p.seen)), .d (.sl (intRows p.sun)), .d (.i p.gain), .d (.i p.start), .d (.i p.stop), .d (.i a.2.2), .d (.i p.capacity), .d (.i p.reserve), .d (.i p.gas), .d (.i p.rate), .d (.i p.units), .d (.sl (intRows p.needs))]))]) (fun a => 0 ≤ a.1 ∧ a.1 ≤ s ∧ s ≤ a.2.1 ∧ a.2.1 ≤ p.capacity) (fun a => (a.2.1 - a.1).toNat) (0, p.capacity, p.capacity) ?_ ⟨Int.le_refl _, hs01.1, hs01.2, Int.le_refl _⟩ ?_
      · simp (maxSteps := 4000000) only [go_sem]
        refine weak_of [] ?_ ?_ rfl rfl <;> simp [lessT, lessM, lessB, AV.less]
      · rintro ⟨lo, hi, ch⟩ ⟨k1, k2, k3, k4⟩
        dsimp only at k1 k2 k3 k4
        simp (maxSteps := 4000000) only [go_sem]
        repeat (first | refine walkL_seq ?_ | refine walkL_skip ?_ | refine walkL_block ?_ | (refine walkL_region fun K hK => ?_; simp (maxSteps := 4000000) only [go_sem]; refine hK _ ?_; clear hK K) | refine walkL_nil ?_ | refine walkL_ret ?_ | refine walkL_exit ?_ | refine blockA_here ?_ | refine blockA_other rfl ?_ | refine blockA_ret ?_ | refine blockA_normal ?_ | refine thenA_ret ?_ | refine thenA_exit ?_ | refine thenA_normal ?_)
        refine walkL_cond rfl (fun hb => ?_) (fun hb => ?_)
        · have hlt : lo < hi := by simpa using hb
          obtain ⟨mid, hmid⟩ : ∃ mid, mid = (lo + hi) / 2 := ⟨_, rfl⟩
          have w1 : IntKind.i64.wrap (lo + hi) = lo + hi := wr_small (by omega)
          have w3 : (lo + hi).tdiv 2 = mid := by rw [hmid]; exact Int.tdiv_eq_ediv_of_nonneg (by omega)
          have w4 : IntKind.i64.wrap mid = mid := wr_small (by omega)
          have w5 : IntKind.i64.wrap (mid + 1) = mid + 1 := wr_small (by omega)
          have h58m := h58 mid
          have hanym := hany mid (by omega) (by omega)
          rw [e1] at h58m
          cases q2 : (L.any fun b => lastsR (chargeP p mid) b R == (p.sun.length : Int))
          · rw [q2] at h58m hanym
            have hne : mid < s := Classical.byContradiction fun h => by
              have := hanym.2 (eC_mono hz hs01.1 (by omega) (by omega) hes)
              cases this
            repeat (first | refine walkL_true rfl ?_ | refine walkL_false rfl ?_ | refine walkL_seq ?_ | refine walkL_skip ?_ | refine walkL_block ?_ | (refine walkL_region fun K hK => ?_; simp (maxSteps := 4000000) only [go_sem, w1, w3, w4, w5]; (repeat (first | (refine ⟨_, .lent (hf := h58m) (hd := rfl) (hr := rfl), ?_⟩; simp (maxSteps := 4000000) only [go_sem, w1, w3, w4, w5]) | (refine ⟨_, .given (hf := h58m) (hd := rfl) (ha := rfl), ?_⟩; simp (maxSteps := 4000000) only [go_sem, w1, w3, w4, w5]))); refine hK _ ?_; clear hK K) | refine walkL_nil ?_ | refine walkL_ret ?_ | refine walkL_exit ?_ | refine blockA_here ?_ | refine blockA_other rfl ?_ | refine blockA_ret ?_ | refine blockA_normal ?_ | refine thenA_ret ?_ | refine thenA_exit ?_ | refine thenA_normal ?_)
            refine ⟨rfl, (mid + 1, hi, mid), ?_, ⟨by dsimp only; omega, by dsimp only; omega, k3, k4⟩, by dsimp only; omega⟩
            refine weak_of [] ?_ ?_ rfl rfl <;> simp [lessT, lessM, lessB, AV.less]
          · rw [q2] at h58m hanym
            have he := hanym.1 rfl
            have hle : s ≤ mid := Classical.byContradiction fun h => hmin mid (by omega) (by omega) he
            repeat (first | refine walkL_true rfl ?_ | refine walkL_false rfl ?_ | refine walkL_seq ?_ | refine walkL_skip ?_ | refine walkL_block ?_ | (refine walkL_region fun K hK => ?_; simp (maxSteps := 4000000) only [go_sem, w1, w3, w4, w5]; (repeat (first | (refine ⟨_, .lent (hf := h58m) (hd := rfl) (hr := rfl), ?_⟩; simp (maxSteps := 4000000) only [go_sem, w1, w3, w4, w5]) | (refine ⟨_, .given (hf := h58m) (hd := rfl) (ha := rfl), ?_⟩; simp (maxSteps := 4000000) only [go_sem, w1, w3, w4, w5]))); refine hK _ ?_; clear hK K) | refine walkL_nil ?_ | refine walkL_ret ?_ | refine walkL_exit ?_ | refine blockA_here ?_ | refine blockA_other rfl ?_ | refine blockA_ret ?_ | refine blockA_normal ?_ | refine thenA_ret ?_ | refine thenA_exit ?_ | refine thenA_normal ?_)
            refine ⟨rfl, (lo, mid, mid), ?_, ⟨k1, k2, hle, by dsimp only; omega⟩, by dsimp only; omega⟩
            refine weak_of [] ?_ ?_ rfl rfl <;> simp [lessT, lessM, lessB, AV.less]
        · have hge : ¬ lo < hi := by simpa using hb
          have : lo = s := by omega
          subst this
          repeat (first | refine walkL_seq ?_ | refine walkL_skip ?_ | refine walkL_block ?_ | (refine walkL_region fun K hK => ?_; simp (maxSteps := 4000000) only [go_sem]; refine hK _ ?_; clear hK K) | refine walkL_nil ?_ | refine walkL_ret ?_ | refine walkL_exit ?_ | refine blockA_here ?_ | refine blockA_other rfl ?_ | refine blockA_ret ?_ | refine blockA_normal ?_ | refine thenA_ret ?_ | refine thenA_exit ?_ | refine thenA_normal ?_)
          simp (maxSteps := 4000000) only [go_sem]
  · rw [leastP_bad hz]
    rw [Plant.cells] at h36
    obtain ⟨e, he⟩ : ∃ e, e = plantE p := ⟨_, rfl⟩
    rw [← he] at h36 hz ⊢
    have q : (e != 0) = true := by simpa using hz
    refine fn_walk 54 Try.call28 Try.func28 rfl (by decide) fun J => ?_
    simp (maxSteps := 4000000) only [go_sem, St.start, Try.ntmps28, Try.results28, Plant.cells]
    repeat (first | refine walkL_true rfl ?_ | refine walkL_false rfl ?_ | refine walkL_seq ?_ | refine walkL_skip ?_ | refine walkL_block ?_ | (refine walkL_region fun K hK => ?_; simp (maxSteps := 4000000) only [go_sem, q]; (repeat (first | (refine ⟨_, .lent (hf := h36) (hd := rfl) (hr := rfl), ?_⟩; simp (maxSteps := 4000000) only [go_sem, q]) | (refine ⟨_, .given (hf := h36) (hd := rfl) (ha := rfl), ?_⟩; simp (maxSteps := 4000000) only [go_sem, q]))); refine hK _ ?_; clear hK K) | refine walkL_nil ?_ | refine walkL_ret ?_ | refine walkL_exit ?_ | refine blockA_here ?_ | refine blockA_other rfl ?_ | refine blockA_ret ?_ | refine blockA_normal ?_ | refine thenA_ret ?_ | refine thenA_exit ?_ | refine thenA_normal ?_)
    simp (maxSteps := 4000000) only [go_sem]

theorem f7 (p : Plant) (hs : PlantSmall p) : Fn Try.prog 7 [.agg p.cells] (.bool true) := by
  have h18 := f18 p hs
  have h15 := f15
  cases hf : far10 p
  case true =>
    rw [hf, Plant.cells] at h18
    refine fn_walk 58 Try.call7 Try.func7 rfl (by decide) fun J => ?_
    simp (maxSteps := 4000000) only [go_sem, St.start, Try.ntmps7, Try.results7, Plant.cells]
    repeat (first | refine walkL_true rfl ?_ | refine walkL_false rfl ?_ | refine walkL_seq ?_ | refine walkL_skip ?_ | refine walkL_block ?_ | (refine walkL_region fun K hK => ?_; simp (maxSteps := 4000000) only [go_sem]; (repeat (first | (refine ⟨_, .lent (hf := h18) (hd := rfl) (hr := rfl), ?_⟩; simp (maxSteps := 4000000) only [go_sem]) | (refine ⟨_, .lent (hf := h15) (hd := rfl) (hr := rfl), ?_⟩; simp (maxSteps := 4000000) only [go_sem]) | (refine ⟨_, .given (hf := h18) (hd := rfl) (ha := rfl), ?_⟩; simp (maxSteps := 4000000) only [go_sem]) | (refine ⟨_, .given (hf := h15) (hd := rfl) (ha := rfl), ?_⟩; simp (maxSteps := 4000000) only [go_sem]))); refine hK _ ?_; clear hK K) | refine walkL_nil ?_ | refine walkL_ret ?_ | refine walkL_exit ?_ | refine blockA_here ?_ | refine blockA_other rfl ?_ | refine blockA_ret ?_ | refine blockA_normal ?_ | refine thenA_ret ?_ | refine thenA_exit ?_ | refine thenA_normal ?_)
    simp (maxSteps := 4000000) only [go_sem]
  case false =>
  have h16 := f16 p hs
  have h24 := f24 p hs
  have h25 := f25 p hs
  have h27 := f27 p hs hf
  have h28 := f28 p hs hf
  obtain ⟨r, hr⟩ : ∃ r, r = spareP p := ⟨_, rfl⟩
  obtain ⟨t, ht⟩ : ∃ t, t = leastP p := ⟨_, rfl⟩
  rw [← hr] at h24 h27
  rw [← ht] at h25 h28
  obtain ⟨a, b⟩ := r
  obtain ⟨c, d⟩ := t
  have q1 : (a == a) = true := by simp
  have q2 : (b == b) = true := by simp
  have q3 : (c == c) = true := by simp
  have q4 : (d == d) = true := by simp
  rw [hf] at h18
  rw [Plant.cells] at h18 h16 h24 h25 h27 h28
  refine fn_walk 58 Try.call7 Try.func7 rfl (by decide) fun J => ?_
  simp (maxSteps := 4000000) only [go_sem, St.start, Try.ntmps7, Try.results7, Plant.cells]
  repeat (first | refine walkL_true rfl ?_ | refine walkL_false rfl ?_ | refine walkL_seq ?_ | refine walkL_skip ?_ | refine walkL_block ?_ | (refine walkL_region fun K hK => ?_; simp (maxSteps := 4000000) only [go_sem, q1, q2, q3, q4]; (repeat (first | (refine ⟨_, .lent (hf := h18) (hd := rfl) (hr := rfl), ?_⟩; simp (maxSteps := 4000000) only [go_sem, q1, q2, q3, q4]) | (refine ⟨_, .lent (hf := h15) (hd := rfl) (hr := rfl), ?_⟩; simp (maxSteps := 4000000) only [go_sem, q1, q2, q3, q4]) | (refine ⟨_, .lent (hf := h16) (hd := rfl) (hr := rfl), ?_⟩; simp (maxSteps := 4000000) only [go_sem, q1, q2, q3, q4]) | (refine ⟨_, .lent (hf := h24) (hd := rfl) (hr := rfl), ?_⟩; simp (maxSteps := 4000000) only [go_sem, q1, q2, q3, q4]) | (refine ⟨_, .lent (hf := h25) (hd := rfl) (hr := rfl), ?_⟩; simp (maxSteps := 4000000) only [go_sem, q1, q2, q3, q4]) | (refine ⟨_, .lent (hf := h27) (hd := rfl) (hr := rfl), ?_⟩; simp (maxSteps := 4000000) only [go_sem, q1, q2, q3, q4]) | (refine ⟨_, .lent (hf := h28) (hd := rfl) (hr := rfl), ?_⟩; simp (maxSteps := 4000000) only [go_sem, q1, q2, q3, q4]) | (refine ⟨_, .given (hf := h18) (hd := rfl) (ha := rfl), ?_⟩; simp (maxSteps := 4000000) only [go_sem, q1, q2, q3, q4]) | (refine ⟨_, .given (hf := h15) (hd := rfl) (ha := rfl), ?_⟩; simp (maxSteps := 4000000) only [go_sem, q1, q2, q3, q4]) | (refine ⟨_, .given (hf := h16) (hd := rfl) (ha := rfl), ?_⟩; simp (maxSteps := 4000000) only [go_sem, q1, q2, q3, q4]) | (refine ⟨_, .given (hf := h24) (hd := rfl) (ha := rfl), ?_⟩; simp (maxSteps := 4000000) only [go_sem, q1, q2, q3, q4]) | (refine ⟨_, .given (hf := h25) (hd := rfl) (ha := rfl), ?_⟩; simp (maxSteps := 4000000) only [go_sem, q1, q2, q3, q4]) | (refine ⟨_, .given (hf := h27) (hd := rfl) (ha := rfl), ?_⟩; simp (maxSteps := 4000000) only [go_sem, q1, q2, q3, q4]) | (refine ⟨_, .given (hf := h28) (hd := rfl) (ha := rfl), ?_⟩; simp (maxSteps := 4000000) only [go_sem, q1, q2, q3, q4]))); refine hK _ ?_; clear hK K) | refine walkL_nil ?_ | refine walkL_ret ?_ | refine walkL_exit ?_ | refine blockA_here ?_ | refine blockA_other rfl ?_ | refine blockA_ret ?_ | refine blockA_normal ?_ | refine thenA_ret ?_ | refine thenA_exit ?_ | refine thenA_normal ?_)
  simp (maxSteps := 4000000) only [go_sem]
end Go.Ab
namespace Go.Ab
open Go.RowKit Go.Proofs
set_option maxHeartbeats 8000000
set_option maxRecDepth 20000
attribute [local irreducible] WalkL Walk

/-! ### A copy in memory of its own, more needs -/

theorem f16m (p : Plant) (hs : PlantSmall p) : FnG Try.prog 16 [] [] (List.map AV.d [.agg p.cells]) (.agg [.d (.sl (scenRows p.scen)), .own 0, .own 1, .d (.i p.gain), .d (.i p.start), .d (.i p.stop), .d (.i p.charge), .d (.i p.capacity), .d (.i p.reserve), .d (.i p.gas), .d (.i p.rate), .d (.i p.units), .own 2])
    [.arr 69 4 (sightRows p.seen), .arr 3 1 (intRows p.sun), .arr 3 1 (intRows p.needs)] := by
  have h43 := f43 p.scen hs.fore
  have h1 := hs.seen
  have h2 := hs.sun
  have h3 := hs.needs
  have e1 : p.seen.length ≤ 549755813888 := by omega
  have e2 : p.sun.length ≤ 549755813888 := by omega
  have e3 : p.needs.length ≤ 549755813888 := by omega
  refine fnG_walk 25 Try.call16 Try.func16 rfl (by decide) [9, 14, 19] [] (by simp only [List.length_cons, List.length_nil]; decide) (by kernel_rfl) fun J => ?_
  simp (maxSteps := 4000000) only [go_sem, St.startG, Try.ntmps16, Try.results16, List.map_cons, List.map_nil, List.range_succ,  Plant.cells]
  repeat (first | refine walkL_seq ?_ | refine walkL_skip ?_ | refine walkL_block ?_ | (refine walkL_region fun K hK => ?_; simp (maxSteps := 4000000) only [go_sem, e1, e2, e3, List.nil_append]; (repeat (first | (refine ⟨_, .lent (hf := h43) (hd := rfl) (hr := rfl), ?_⟩; simp (maxSteps := 4000000) only [go_sem, e1, e2, e3, List.nil_append]) | (refine ⟨_, .given (hf := h43) (hd := rfl) (ha := rfl), ?_⟩; simp (maxSteps := 4000000) only [go_sem, e1, e2, e3, List.nil_append]))); refine hK _ ?_; clear hK K) | refine walkL_nil ?_ | refine walkL_ret ?_ | refine walkL_exit ?_ | refine blockA_here ?_ | refine blockA_other rfl ?_ | refine blockA_ret ?_ | refine blockA_normal ?_ | refine thenA_ret ?_ | refine thenA_exit ?_ | refine thenA_normal ?_)
  simp (maxSteps := 4000000) only [go_sem, retG]

theorem f26 (p : Plant) (m : Int) (hs : PlantSmall p) : Fn Try.prog 26 [.agg p.cells, .i m] (.tup [.agg (needsP p m).cells, .bool (plantE (needsP p m) == 0)]) := by
  have hn := hs.needs
  have h16 := f16m p hs
  have h36 := f36 (needsP p m) (small_needs hs m)
  obtain ⟨f, hf⟩ : ∃ f : Int → Int, f = fun n => wr (n + m) := ⟨_, rfl⟩
  have e0 : (needsP p m).cells = [.sl (scenRows p.scen), .sl (sightRows p.seen), .sl (intRows p.sun), .i p.gain, .i p.start, .i p.stop, .i p.charge, .i p.capacity, .i p.reserve, .i p.gas, .i p.rate, .i p.units, .sl (intRows (p.needs.map f))] := by rw [hf]; rfl
  obtain ⟨E, hE⟩ : ∃ E, E = plantE (needsP p m) := ⟨_, rfl⟩
  rw [← hE, e0] at h36
  rw [← hE, e0]
  rw [Plant.cells] at h16
  refine fn_walk 29 Try.call26 Try.func26 rfl (by decide) fun J => ?_
  simp (maxSteps := 4000000) only [go_sem, St.start, Try.ntmps26, Try.results26, Plant.cells]
  repeat (first | refine walkL_seq ?_ | refine walkL_skip ?_ | refine walkL_block ?_ | (refine walkL_region fun K hK => ?_; simp (maxSteps := 4000000) only [go_sem]; refine hK _ ?_; clear hK K) | refine walkL_nil ?_ | refine walkL_ret ?_ | refine walkL_exit ?_ | refine blockA_here ?_ | refine blockA_other rfl ?_ | refine blockA_ret ?_ | refine blockA_normal ?_ | refine thenA_ret ?_ | refine thenA_exit ?_ | refine thenA_normal ?_)
  refine walkL_region fun K hK => ?_
  simp (maxSteps := 4000000) only [go_sem]
  refine ⟨_, .made (news := [26, 27, 28]) (hf := h16) (hd := rfl) (hn := by decide) (hl := rfl) (hnew := rfl) (hx := rfl), ?_⟩
  simp (maxSteps := 4000000) only [go_sem, List.map_cons, List.map_nil]
  refine hK _ ?_
  clear hK K
  repeat (first | refine walkL_seq ?_ | refine walkL_skip ?_ | refine walkL_block ?_ | (refine walkL_region fun K hK => ?_; simp (maxSteps := 4000000) only [go_sem]; refine hK _ ?_; clear hK K) | refine walkL_nil ?_ | refine walkL_ret ?_ | refine walkL_exit ?_ | refine blockA_here ?_ | refine blockA_other rfl ?_ | refine blockA_ret ?_ | refine blockA_normal ?_ | refine thenA_ret ?_ | refine thenA_exit ?_ | refine thenA_normal ?_)
  refine walkL_loopS (fun (i : Nat) => [(7, .d (.i i))]) (fun i => [(28, some (.arr 3 1 (intRows (updN f p.needs i))))]) (fun i => i ≤ p.needs.length) (fun i => p.needs.length - i) 0 ?_ (Nat.zero_le _) ?_
  · simp (maxSteps := 4000000) only [go_sem, updN_zero]
    refine weak_of [] ?_ ?_ rfl rfl <;> simp [lessT, lessM, lessB, AV.less]
    all_goals first | done | rfl | exact ⟨rfl, rfl⟩ | rw [updN_zero]
  · intro i hi
    simp (maxSteps := 4000000) only [go_sem, updN_len]
    repeat (first | refine walkL_seq ?_ | refine walkL_skip ?_ | refine walkL_block ?_ | (refine walkL_region fun K hK => ?_; simp (maxSteps := 4000000) only [go_sem, updN_len]; refine hK _ ?_; clear hK K) | refine walkL_nil ?_ | refine walkL_ret ?_ | refine walkL_exit ?_ | refine blockA_here ?_ | refine blockA_other rfl ?_ | refine blockA_ret ?_ | refine blockA_normal ?_ | refine thenA_ret ?_ | refine thenA_exit ?_ | refine thenA_normal ?_)
    refine walkL_cond rfl (fun hb => ?_) (fun hb => ?_)
    · have hlt : i < p.needs.length := by simpa using hb
      have hw : IntKind.i64.wrap ((i : Int) + 1) = ((i + 1 : Nat) : Int) := by rw [wr_small (by omega)]; simp
      obtain ⟨x, hx⟩ : ∃ x, p.needs[i]? = some x := ⟨_, List.getElem?_eq_getElem hlt⟩
      have g1 := intRows_at (updN_get f hx)
      have hfx : IntKind.i64.wrap (x + m) = f x := by rw [hf]
      repeat (first | refine walkL_seq ?_ | refine walkL_skip ?_ | refine walkL_block ?_ | (refine walkL_region fun K hK => ?_; simp (maxSteps := 4000000) only [go_sem, g1, hw, updN_len, hfx, hlt]; refine hK _ ?_; clear hK K) | refine walkL_nil ?_ | refine walkL_ret ?_ | refine walkL_exit ?_ | refine blockA_here ?_ | refine blockA_other rfl ?_ | refine blockA_ret ?_ | refine blockA_normal ?_ | refine thenA_ret ?_ | refine thenA_exit ?_ | refine thenA_normal ?_)
      refine ⟨rfl, i + 1, ?_, hlt, by omega⟩
      rw [← updN_set f hx, intRows_set]
      refine weak_of [] ?_ ?_ rfl rfl <;> simp [lessT, lessM, lessB, AV.less]
      all_goals first | done | rfl | exact ⟨rfl, rfl⟩
    · have he : i = p.needs.length := by (have : ¬ i < p.needs.length := by simpa using hb); omega
      subst he
      rw [updN_all]
      repeat (first | refine walkL_seq ?_ | refine walkL_skip ?_ | refine walkL_block ?_ | (refine walkL_region fun K hK => ?_; simp (maxSteps := 4000000) only [go_sem]; refine hK _ ?_; clear hK K) | refine walkL_nil ?_ | refine walkL_ret ?_ | refine walkL_exit ?_ | refine blockA_here ?_ | refine blockA_other rfl ?_ | refine blockA_ret ?_ | refine blockA_normal ?_ | refine thenA_ret ?_ | refine thenA_exit ?_ | refine thenA_normal ?_)
      refine walkL_drawn (by kernel_rfl) (by kernel_rfl) fun K hK => ?_
      simp (maxSteps := 4000000) only [go_sem]
      refine ⟨_, .fn (hf := h36) (hd := rfl) (hr := .inl rfl), ?_⟩
      simp (maxSteps := 4000000) only [go_sem]
      refine ⟨by kernel_rfl, hK _ ?_⟩
      clear hK K
      repeat (first | refine walkL_seq ?_ | refine walkL_skip ?_ | refine walkL_block ?_ | (refine walkL_region fun K hK => ?_; simp (maxSteps := 4000000) only [go_sem]; refine hK _ ?_; clear hK K) | refine walkL_nil ?_ | refine walkL_ret ?_ | refine walkL_exit ?_ | refine blockA_here ?_ | refine blockA_other rfl ?_ | refine blockA_ret ?_ | refine blockA_normal ?_ | refine thenA_ret ?_ | refine thenA_exit ?_ | refine thenA_normal ?_)
      simp (maxSteps := 4000000) only [go_sem]
end Go.Ab
namespace Go.Ab
open Go.RowKit Go.Proofs
set_option maxHeartbeats 8000000
set_option maxRecDepth 20000
attribute [local irreducible] WalkL Walk

/-! ### Yields -/

theorem f66 (x : Int) (l : List Int) (hl : l.length < 2 ^ 30) : Fn Try.prog 66 [.sl (intRows (x :: l))] (.i (l.foldl min x)) := by
  have q : decide (((x :: l).length : Int) < 1) = false := by simp; omega
  have g0 : (intRows (x :: l))[0]? = some [.i x] := rfl
  have hL : (x :: l).length = l.length + 1 := rfl
  refine fn_walk 25 Try.call66 Try.func66 rfl (by decide) fun J => ?_
  simp (maxSteps := 4000000) only [go_sem, St.start, Try.ntmps66, Try.results66]
  repeat (first | refine walkL_true rfl ?_ | refine walkL_false rfl ?_ | refine walkL_seq ?_ | refine walkL_skip ?_ | refine walkL_block ?_ | (refine walkL_region fun K hK => ?_; simp (maxSteps := 4000000) only [go_sem, q, g0]; refine hK _ ?_; clear hK K) | refine walkL_nil ?_ | refine walkL_ret ?_ | refine walkL_exit ?_ | refine blockA_here ?_ | refine blockA_other rfl ?_ | refine blockA_ret ?_ | refine blockA_normal ?_ | refine thenA_ret ?_ | refine thenA_exit ?_ | refine thenA_normal ?_)
  refine walkL_loopS (fun (i : Nat) => [(4, .d (.i ((i + 1 : Nat) : Int))), (3, .d (.i ((l.take i).foldl min x)))]) (fun _ => []) (fun i => i ≤ l.length) (fun i => l.length - i) 0 ?_ (Nat.zero_le _) ?_
  · simp (maxSteps := 4000000) only [go_sem]
    refine weak_of [] ?_ ?_ rfl rfl <;> simp [lessT, lessM, lessB, AV.less]
    all_goals first | done | rfl | exact ⟨rfl, rfl⟩
  · intro i hi
    simp (maxSteps := 4000000) only [go_sem]
    repeat (first | refine walkL_seq ?_ | refine walkL_skip ?_ | refine walkL_block ?_ | (refine walkL_region fun K hK => ?_; simp (maxSteps := 4000000) only [go_sem]; refine hK _ ?_; clear hK K) | refine walkL_nil ?_ | refine walkL_ret ?_ | refine walkL_exit ?_ | refine blockA_here ?_ | refine blockA_other rfl ?_ | refine blockA_ret ?_ | refine blockA_normal ?_ | refine thenA_ret ?_ | refine thenA_exit ?_ | refine thenA_normal ?_)
    refine walkL_cond rfl (fun hb => ?_) (fun hb => ?_)
    · have hlt : i < l.length := by
        have : ((i + 1 : Nat) : Int) < ((x :: l).length : Int) := by simpa using hb
        omega
      have hw : IntKind.i64.wrap (((i + 1 : Nat) : Int) + 1) = ((i + 1 + 1 : Nat) : Int) := by rw [wr_small (by omega)]; simp
      obtain ⟨y, hy⟩ : ∃ y, l[i]? = some y := ⟨_, List.getElem?_eq_getElem hlt⟩
      have g1 : (intRows (x :: l))[i + 1]? = some [.i y] := intRows_at (by rw [List.getElem?_cons_succ]; exact hy)
      have e := foldl_take_succ min x l i y hy
      repeat (first | refine walkL_seq ?_ | refine walkL_skip ?_ | refine walkL_block ?_ | (refine walkL_region fun K hK => ?_; simp (maxSteps := 4000000) only [go_sem, g1, hw]; refine hK _ ?_; clear hK K) | refine walkL_nil ?_ | refine walkL_ret ?_ | refine walkL_exit ?_ | refine blockA_here ?_ | refine blockA_other rfl ?_ | refine blockA_ret ?_ | refine blockA_normal ?_ | refine thenA_ret ?_ | refine thenA_exit ?_ | refine thenA_normal ?_)
      refine ⟨rfl, i + 1, ?_, hlt, by omega⟩
      rw [e]
      refine weak_of [] ?_ ?_ rfl rfl <;> simp [lessT, lessM, lessB, AV.less]
      all_goals first | done | rfl | exact ⟨rfl, rfl⟩
    · have he : i = l.length := by
        have : ¬ ((i + 1 : Nat) : Int) < ((x :: l).length : Int) := by simpa using hb
        omega
      subst he
      rw [List.take_length]
      repeat (first | refine walkL_seq ?_ | refine walkL_skip ?_ | refine walkL_block ?_ | (refine walkL_region fun K hK => ?_; simp (maxSteps := 4000000) only [go_sem]; refine hK _ ?_; clear hK K) | refine walkL_nil ?_ | refine walkL_ret ?_ | refine walkL_exit ?_ | refine blockA_here ?_ | refine blockA_other rfl ?_ | refine blockA_ret ?_ | refine blockA_normal ?_ | refine thenA_ret ?_ | refine thenA_exit ?_ | refine thenA_normal ?_)
      simp (maxSteps := 4000000) only [go_sem]

theorem f67 (x : Int) (l : List Int) (hl : l.length < 2 ^ 30) : Fn Try.prog 67 [.sl (intRows (x :: l))] (.i (l.foldl max x)) := by
  have q : decide (((x :: l).length : Int) < 1) = false := by simp; omega
  have g0 : (intRows (x :: l))[0]? = some [.i x] := rfl
  have hL : (x :: l).length = l.length + 1 := rfl
  refine fn_walk 25 Try.call67 Try.func67 rfl (by decide) fun J => ?_
  simp (maxSteps := 4000000) only [go_sem, St.start, Try.ntmps67, Try.results67]
  repeat (first | refine walkL_true rfl ?_ | refine walkL_false rfl ?_ | refine walkL_seq ?_ | refine walkL_skip ?_ | refine walkL_block ?_ | (refine walkL_region fun K hK => ?_; simp (maxSteps := 4000000) only [go_sem, q, g0]; refine hK _ ?_; clear hK K) | refine walkL_nil ?_ | refine walkL_ret ?_ | refine walkL_exit ?_ | refine blockA_here ?_ | refine blockA_other rfl ?_ | refine blockA_ret ?_ | refine blockA_normal ?_ | refine thenA_ret ?_ | refine thenA_exit ?_ | refine thenA_normal ?_)
  refine walkL_loopS (fun (i : Nat) => [(4, .d (.i ((i + 1 : Nat) : Int))), (3, .d (.i ((l.take i).foldl max x)))]) (fun _ => []) (fun i => i ≤ l.length) (fun i => l.length - i) 0 ?_ (Nat.zero_le _) ?_
  · simp (maxSteps := 4000000) only [go_sem]
    refine weak_of [] ?_ ?_ rfl rfl <;> simp [lessT, lessM, lessB, AV.less]
    all_goals first | done | rfl | exact ⟨rfl, rfl⟩
  · intro i hi
    simp (maxSteps := 4000000) only [go_sem]
    repeat (first | refine walkL_seq ?_ | refine walkL_skip ?_ | refine walkL_block ?_ | (refine walkL_region fun K hK => ?_; simp (maxSteps := 4000000) only [go_sem]; refine hK _ ?_; clear hK K) | refine walkL_nil ?_ | refine walkL_ret ?_ | refine walkL_exit ?_ | refine blockA_here ?_ | refine blockA_other rfl ?_ | refine blockA_ret ?_ | refine blockA_normal ?_ | refine thenA_ret ?_ | refine thenA_exit ?_ | refine thenA_normal ?_)
    refine walkL_cond rfl (fun hb => ?_) (fun hb => ?_)
    · have hlt : i < l.length := by
        have : ((i + 1 : Nat) : Int) < ((x :: l).length : Int) := by simpa using hb
        omega
      have hw : IntKind.i64.wrap (((i + 1 : Nat) : Int) + 1) = ((i + 1 + 1 : Nat) : Int) := by rw [wr_small (by omega)]; simp
      obtain ⟨y, hy⟩ : ∃ y, l[i]? = some y := ⟨_, List.getElem?_eq_getElem hlt⟩
      have g1 : (intRows (x :: l))[i + 1]? = some [.i y] := intRows_at (by rw [List.getElem?_cons_succ]; exact hy)
      have e := foldl_take_succ max x l i y hy
      repeat (first | refine walkL_seq ?_ | refine walkL_skip ?_ | refine walkL_block ?_ | (refine walkL_region fun K hK => ?_; simp (maxSteps := 4000000) only [go_sem, g1, hw]; refine hK _ ?_; clear hK K) | refine walkL_nil ?_ | refine walkL_ret ?_ | refine walkL_exit ?_ | refine blockA_here ?_ | refine blockA_other rfl ?_ | refine blockA_ret ?_ | refine blockA_normal ?_ | refine thenA_ret ?_ | refine thenA_exit ?_ | refine thenA_normal ?_)
      refine ⟨rfl, i + 1, ?_, hlt, by omega⟩
      rw [e]
      refine weak_of [] ?_ ?_ rfl rfl <;> simp [lessT, lessM, lessB, AV.less]
      all_goals first | done | rfl | exact ⟨rfl, rfl⟩
    · have he : i = l.length := by
        have : ¬ ((i + 1 : Nat) : Int) < ((x :: l).length : Int) := by simpa using hb
        omega
      subst he
      rw [List.take_length]
      repeat (first | refine walkL_seq ?_ | refine walkL_skip ?_ | refine walkL_block ?_ | (refine walkL_region fun K hK => ?_; simp (maxSteps := 4000000) only [go_sem]; refine hK _ ?_; clear hK K) | refine walkL_nil ?_ | refine walkL_ret ?_ | refine walkL_exit ?_ | refine blockA_here ?_ | refine blockA_other rfl ?_ | refine blockA_ret ?_ | refine blockA_normal ?_ | refine thenA_ret ?_ | refine thenA_exit ?_ | refine thenA_normal ?_)
      simp (maxSteps := 4000000) only [go_sem]
end Go.Ab
namespace Go.Ab
open Go.RowKit Go.Proofs
set_option maxHeartbeats 8000000
set_option maxRecDepth 20000
attribute [local irreducible] WalkL Walk

def minL : List Int → Int
  | [] => 0
  | x :: l => l.foldl min x
def maxL : List Int → Int
  | [] => 0
  | x :: l => l.foldl max x
def lowsG (g : Grid) (h : Nat) : List Int := g.scen.map fun l => yieldW g.p (h : Int) (worstW g.p (hourAt l (h : Int)))
def highsG (g : Grid) (h : Nat) : List Int := g.scen.map fun l => yieldW g.p (h : Int) (bestW g.p (hourAt l (h : Int)))
def spanR (g : Grid) (h : Nat) : List DV := [.i (minL (lowsG g h)), .i (maxL (highsG g h))]
def spansR (g : Grid) (n : Nat) : List (List DV) := (List.range n).map (spanR g)
theorem spansR_push (g : Grid) (n : Nat) : spansR g (n + 1) = spansR g n ++ [spanR g n] := by simp [spansR, List.range_succ]
theorem spansR_len (g : Grid) (n : Nat) : (spansR g n).length = n := by simp [spansR]
theorem spansR_head (g : Grid) (n : Nat) : headIs 2 (spansR g n) = true := by cases n <;> simp [spansR, spanR, List.range_succ_eq_map, headIs]

theorem f66L (l : List Int) (h0 : l ≠ []) (hl : l.length < 2 ^ 30) : Fn Try.prog 66 [.sl (intRows l)] (.i (minL l)) := by
  cases l with
  | nil => exact absurd rfl h0
  | cons x l => exact f66 x l (by simp at hl; omega)
theorem f67L (l : List Int) (h0 : l ≠ []) (hl : l.length < 2 ^ 30) : Fn Try.prog 67 [.sl (intRows l)] (.i (maxL l)) := by
  cases l with
  | nil => exact absurd rfl h0
  | cons x l => exact f67 x l (by simp at hl; omega)

def yieldsP (p : Plant) : List (List DV) × Int := if openE p [] = 0 then (spansR (gridOf p) p.sun.length, 0) else ([], openE p [])

theorem f32 (p : Plant) (hs : PlantSmall p) : Fn Try.prog 32 [.agg p.cells] (.tup [.sl (yieldsP p).1, .i (yieldsP p).2]) := by
  have h44 := f44 p [] hs (by simp) (by simp)
  have e0 : listRows [] = [] := rfl
  rw [e0, Plant.cells] at h44
  by_cases hz : openE p [] = 0
  · have hz2 := hz
    rw [openE_nil] at hz2
    have hg := plant_good hz2
    obtain ⟨eH, eH1, eH2⟩ := grid_lens hg
    obtain ⟨H, hgo, _⟩ := grid_good hg
    have hsc := hgo.scen
    have hscl := fun l (hl : l ∈ (gridOf p).scen) => (scen_ok hg hl).1
    rw [if_pos hz, hz] at h44
    rw [yieldsP, if_pos hz]
    obtain ⟨g, hgg⟩ : ∃ g, g = gridOf p := ⟨_, rfl⟩
    have hgp : g.p = p := by rw [hgg]; rfl
    rw [← hgg] at h44 eH hsc hscl ⊢
    have h63 := fun (h : Int) (s : Sky) hh => f63 g h s hh
    have h64 := fun (x : Hour) => f64 g x
    have h65 := fun (x : Hour) => f65 g x
    rw [Grid.cells] at h44 h63 h64 h65
    rw [eH] at h44 h63 h64 h65
    refine fn_walk 71 Try.call32 Try.func32 rfl (by decide) fun J => ?_
    simp (maxSteps := 4000000) only [go_sem, St.start, Try.ntmps32, Try.results32, Plant.cells]
    repeat (first | refine walkL_true rfl ?_ | refine walkL_false rfl ?_ | refine walkL_seq ?_ | refine walkL_skip ?_ | refine walkL_block ?_ | (refine walkL_region fun K hK => ?_; simp (maxSteps := 4000000) only [go_sem]; (repeat (first | (refine ⟨_, .lent (hf := h44) (hd := rfl) (hr := rfl), ?_⟩; simp (maxSteps := 4000000) only [go_sem]) | (refine ⟨_, .given (hf := h44) (hd := rfl) (ha := rfl), ?_⟩; simp (maxSteps := 4000000) only [go_sem]))); refine hK _ ?_; clear hK K) | refine walkL_nil ?_ | refine walkL_ret ?_ | refine walkL_exit ?_ | refine blockA_here ?_ | refine blockA_other rfl ?_ | refine blockA_ret ?_ | refine blockA_normal ?_ | refine thenA_ret ?_ | refine thenA_exit ?_ | refine thenA_normal ?_)
    refine walkL_loopS (fun (h : Nat) => [(24, .d (.i h)), (6, .own 68), (7, .undef), (8, .undef), (9, .undef), (11, .undef), (32, .undef)]) (fun h => [(68, some (.arr 62 2 (spansR g h)))]) (fun h => h ≤ p.sun.length) (fun h => p.sun.length - h) 0 ?_ (Nat.zero_le _) ?_
    · simp (maxSteps := 4000000) only [go_sem]
      refine weak_of [68] ?_ ?_ rfl rfl <;> simp [lessT, lessM, lessB, AV.less]
      all_goals first | done | rfl | exact ⟨rfl, rfl⟩
    · intro h hh
      simp (maxSteps := 4000000) only [go_sem]
      repeat (first | refine walkL_seq ?_ | refine walkL_skip ?_ | refine walkL_block ?_ | (refine walkL_region fun K hK => ?_; simp (maxSteps := 4000000) only [go_sem]; refine hK _ ?_; clear hK K) | refine walkL_nil ?_ | refine walkL_ret ?_ | refine walkL_exit ?_ | refine blockA_here ?_ | refine blockA_other rfl ?_ | refine blockA_ret ?_ | refine blockA_normal ?_ | refine thenA_ret ?_ | refine thenA_exit ?_ | refine thenA_normal ?_)
      refine walkL_cond rfl (fun hb => ?_) (fun hb => ?_)
      · have hlt : h < p.sun.length := by simpa using hb
        have hw : IntKind.i64.wrap ((h : Int) + 1) = ((h + 1 : Nat) : Int) := by rw [wr_small (by omega)]; simp
        repeat (first | refine walkL_seq ?_ | refine walkL_skip ?_ | refine walkL_block ?_ | (refine walkL_region fun K hK => ?_; simp (maxSteps := 4000000) only [go_sem]; refine hK _ ?_; clear hK K) | refine walkL_nil ?_ | refine walkL_ret ?_ | refine walkL_exit ?_ | refine blockA_here ?_ | refine blockA_other rfl ?_ | refine blockA_ret ?_ | refine blockA_normal ?_ | refine thenA_ret ?_ | refine thenA_exit ?_ | refine thenA_normal ?_)
        refine walkL_loopS (fun (k : Nat) => [(32, .d (.i k)), (8, .own 47), (9, .own 59), (11, .undef)]) (fun k => [(47, some (.arr 3 1 (intRows ((lowsG g h).take k)))), (59, some (.arr 3 1 (intRows ((highsG g h).take k))))]) (fun k => k ≤ g.scen.length) (fun k => g.scen.length - k) 0 ?_ (Nat.zero_le _) ?_
        · simp (maxSteps := 4000000) only [go_sem]
          refine weak_of [47, 59] ?_ ?_ rfl rfl <;> simp [lessT, lessM, lessB, AV.less]
          all_goals first | done | rfl | exact ⟨rfl, rfl⟩
        · intro k hk
          simp (maxSteps := 4000000) only [go_sem]
          repeat (first | refine walkL_seq ?_ | refine walkL_skip ?_ | refine walkL_block ?_ | (refine walkL_region fun K hK => ?_; simp (maxSteps := 4000000) only [go_sem]; refine hK _ ?_; clear hK K) | refine walkL_nil ?_ | refine walkL_ret ?_ | refine walkL_exit ?_ | refine blockA_here ?_ | refine blockA_other rfl ?_ | refine blockA_ret ?_ | refine blockA_normal ?_ | refine thenA_ret ?_ | refine thenA_exit ?_ | refine thenA_normal ?_)
          refine walkL_cond rfl (fun hb => ?_) (fun hb => ?_)
          · have hltk : k < g.scen.length := by simpa using hb
            have hwk : IntKind.i64.wrap ((k : Int) + 1) = ((k + 1 : Nat) : Int) := by rw [wr_small (by omega)]; simp
            obtain ⟨l, hl⟩ : ∃ l, g.scen[k]? = some l := ⟨_, List.getElem?_eq_getElem hltk⟩
            have hll := hscl l (List.mem_of_getElem? hl)
            have g1 := scenRows_at hl
            have g2 := hourRows_at (hourAt_get (l := l) (i := (h : Int)) ⟨by omega, by omega⟩)
            rw [Int.toNat_natCast] at g2
            obtain ⟨x, hx⟩ : ∃ x, x = hourAt l (h : Int) := ⟨_, rfl⟩
            rw [← hx] at g2
            have a1 := h64 x
            have a2 := h65 x
            have a3 := h63 (h : Int) (worstW g.p x) ⟨by omega, by rw [hgp]; omega⟩
            have a4 := h63 (h : Int) (bestW g.p x) ⟨by omega, by rw [hgp]; omega⟩
            rw [Hour.row] at a1 a2
            have n1 : (lowsG g h).take (k + 1) = (lowsG g h).take k ++ [yieldW g.p h (worstW g.p x)] := by
              rw [List.take_add_one, lowsG, List.getElem?_map, hl, hx]; rfl
            have n2 : (highsG g h).take (k + 1) = (highsG g h).take k ++ [yieldW g.p h (bestW g.p x)] := by
              rw [List.take_add_one, highsG, List.getElem?_map, hl, hx]; rfl
            have e1 : (lowsG g h).length = g.scen.length := by simp [lowsG]
            have e2 : (highsG g h).length = g.scen.length := by simp [highsG]
            obtain ⟨A, hA⟩ : ∃ A, A = (lowsG g h).take k := ⟨_, rfl⟩
            obtain ⟨B, hB⟩ : ∃ B, B = (highsG g h).take k := ⟨_, rfl⟩
            have hA1 : A.length + 1 ≤ 549755813888 := by rw [hA, List.length_take]; omega
            have hB1 : B.length + 1 ≤ 549755813888 := by rw [hB, List.length_take]; omega
            rw [← hA] at n1 ⊢
            rw [← hB] at n2 ⊢
            obtain ⟨W1, hW1⟩ : ∃ W, W = (worstW g.p x).row := ⟨_, rfl⟩
            obtain ⟨W2, hW2⟩ : ∃ W, W = (bestW g.p x).row := ⟨_, rfl⟩
            rw [Sky.row] at a1 a2 a3 a4
            repeat (first | refine walkL_seq ?_ | refine walkL_skip ?_ | refine walkL_block ?_ | (refine walkL_region fun K hK => ?_; simp (maxSteps := 4000000) only [go_sem, g1, g2, hA1, hB1, hwk, Hour.row]; (repeat (first | (refine ⟨_, .lent (hf := a1) (hd := rfl) (hr := rfl), ?_⟩; simp (maxSteps := 4000000) only [go_sem, g1, g2, hA1, hB1, hwk, Hour.row]) | (refine ⟨_, .lent (hf := a2) (hd := rfl) (hr := rfl), ?_⟩; simp (maxSteps := 4000000) only [go_sem, g1, g2, hA1, hB1, hwk, Hour.row]) | (refine ⟨_, .lent (hf := a3) (hd := rfl) (hr := rfl), ?_⟩; simp (maxSteps := 4000000) only [go_sem, g1, g2, hA1, hB1, hwk, Hour.row]) | (refine ⟨_, .lent (hf := a4) (hd := rfl) (hr := rfl), ?_⟩; simp (maxSteps := 4000000) only [go_sem, g1, g2, hA1, hB1, hwk, Hour.row]) | (refine ⟨_, .given (hf := a1) (hd := rfl) (ha := rfl), ?_⟩; simp (maxSteps := 4000000) only [go_sem, g1, g2, hA1, hB1, hwk, Hour.row]) | (refine ⟨_, .given (hf := a2) (hd := rfl) (ha := rfl), ?_⟩; simp (maxSteps := 4000000) only [go_sem, g1, g2, hA1, hB1, hwk, Hour.row]) | (refine ⟨_, .given (hf := a3) (hd := rfl) (ha := rfl), ?_⟩; simp (maxSteps := 4000000) only [go_sem, g1, g2, hA1, hB1, hwk, Hour.row]) | (refine ⟨_, .given (hf := a4) (hd := rfl) (ha := rfl), ?_⟩; simp (maxSteps := 4000000) only [go_sem, g1, g2, hA1, hB1, hwk, Hour.row]))); refine hK _ ?_; clear hK K) | refine walkL_nil ?_ | refine walkL_ret ?_ | refine walkL_exit ?_ | refine blockA_here ?_ | refine blockA_other rfl ?_ | refine blockA_ret ?_ | refine blockA_normal ?_ | refine thenA_ret ?_ | refine thenA_exit ?_ | refine thenA_normal ?_)
            refine ⟨rfl, k + 1, ?_, hltk, by omega⟩
            rw [n1, n2, ← intRows_append, ← intRows_append]
            refine weak_of [] ?_ ?_ rfl rfl <;> simp [lessT, lessM, lessB, AV.less]
            all_goals first | done | rfl | exact ⟨rfl, rfl⟩
          · have he : k = g.scen.length := by (have : ¬ k < g.scen.length := by simpa using hb); omega
            subst he
            have e1 : (lowsG g h).length = g.scen.length := by simp [lowsG]
            have e2 : (highsG g h).length = g.scen.length := by simp [highsG]
            rw [← e1, List.take_length, e1, ← e2, List.take_length]
            have z1 := f66L (lowsG g h) (by intro e; rw [e] at e1; exact hsc.1 (List.length_eq_zero_iff.1 e1.symm)) (by omega)
            have z2 := f67L (highsG g h) (by intro e; rw [e] at e2; exact hsc.1 (List.length_eq_zero_iff.1 e2.symm)) (by omega)
            have n1 := spansR_push g h
            have n3 := spansR_len g h
            obtain ⟨m1, hm1⟩ : ∃ m, m = minL (lowsG g h) := ⟨_, rfl⟩
            obtain ⟨m2, hm2⟩ : ∃ m, m = maxL (highsG g h) := ⟨_, rfl⟩
            rw [spanR, ← hm1, ← hm2] at n1
            rw [← hm1] at z1
            rw [← hm2] at z2
            have hn : (spansR g h).length + 1 ≤ 549755813888 := by rw [n3]; omega
            have hhd := spansR_head g h
            repeat (first | refine walkL_seq ?_ | refine walkL_skip ?_ | refine walkL_block ?_ | (refine walkL_region fun K hK => ?_; simp (maxSteps := 4000000) only [go_sem, hn, hhd, hw]; (repeat (first | (refine ⟨_, .lent (hf := z1) (hd := rfl) (hr := rfl), ?_⟩; simp (maxSteps := 4000000) only [go_sem, hn, hhd, hw]) | (refine ⟨_, .lent (hf := z2) (hd := rfl) (hr := rfl), ?_⟩; simp (maxSteps := 4000000) only [go_sem, hn, hhd, hw]) | (refine ⟨_, .given (hf := z1) (hd := rfl) (ha := rfl), ?_⟩; simp (maxSteps := 4000000) only [go_sem, hn, hhd, hw]) | (refine ⟨_, .given (hf := z2) (hd := rfl) (ha := rfl), ?_⟩; simp (maxSteps := 4000000) only [go_sem, hn, hhd, hw]))); refine hK _ ?_; clear hK K) | refine walkL_nil ?_ | refine walkL_ret ?_ | refine walkL_exit ?_ | refine blockA_here ?_ | refine blockA_other rfl ?_ | refine blockA_ret ?_ | refine blockA_normal ?_ | refine thenA_ret ?_ | refine thenA_exit ?_ | refine thenA_normal ?_)
            refine ⟨rfl, h + 1, ?_, hlt, by omega⟩
            rw [n1]
            refine weak_of [] ?_ ?_ rfl rfl <;> simp [lessT, lessM, lessB, AV.less]
            all_goals first | done | rfl | exact ⟨rfl, rfl⟩
      · have he : h = p.sun.length := by (have : ¬ h < p.sun.length := by simpa using hb); omega
        subst he
        repeat (first | refine walkL_seq ?_ | refine walkL_skip ?_ | refine walkL_block ?_ | (refine walkL_region fun K hK => ?_; simp (maxSteps := 4000000) only [go_sem]; refine hK _ ?_; clear hK K) | refine walkL_nil ?_ | refine walkL_ret ?_ | refine walkL_exit ?_ | refine blockA_here ?_ | refine blockA_other rfl ?_ | refine blockA_ret ?_ | refine blockA_normal ?_ | refine thenA_ret ?_ | refine thenA_exit ?_ | refine thenA_normal ?_)
        simp (maxSteps := 4000000) only [go_sem]
  · rw [if_neg hz] at h44
    rw [yieldsP, if_neg hz]
    have q2 : (openE p [] != 0) = true := by simpa using hz
    refine fn_walk 71 Try.call32 Try.func32 rfl (by decide) fun J => ?_
    simp (maxSteps := 4000000) only [go_sem, St.start, Try.ntmps32, Try.results32, Plant.cells]
    repeat (first | refine walkL_true rfl ?_ | refine walkL_false rfl ?_ | refine walkL_seq ?_ | refine walkL_skip ?_ | refine walkL_block ?_ | (refine walkL_region fun K hK => ?_; simp (maxSteps := 4000000) only [go_sem, q2]; (repeat (first | (refine ⟨_, .lent (hf := h44) (hd := rfl) (hr := rfl), ?_⟩; simp (maxSteps := 4000000) only [go_sem, q2]) | (refine ⟨_, .given (hf := h44) (hd := rfl) (ha := rfl), ?_⟩; simp (maxSteps := 4000000) only [go_sem, q2]))); refine hK _ ?_; clear hK K) | refine walkL_nil ?_ | refine walkL_ret ?_ | refine walkL_exit ?_ | refine blockA_here ?_ | refine blockA_other rfl ?_ | refine blockA_ret ?_ | refine blockA_normal ?_ | refine thenA_ret ?_ | refine thenA_exit ?_ | refine thenA_normal ?_)
    simp (maxSteps := 4000000) only [go_sem]
    try rfl
end Go.Ab
namespace Go.Ab
open Go.RowKit Go.Proofs
set_option maxHeartbeats 8000000
set_option maxRecDepth 20000
attribute [local irreducible] WalkL Walk

/-! ### The document's greatest yields are those of the best sky -/

theorem best_in {p : Plant} {h : Hour} (hh : hourB h = true) : insideB (bestW p h) h = true := by
  have h1 := hourB_iff.1 hh
  rw [inside_iff]
  unfold bestW
  dsimp only
  split
  · rename_i q
    have q : p.stop < h.wind.hi ∧ p.stop ≥ h.wind.lo := by simpa using q
    omega
  · omega

theorem best_most {p : Plant} (hg : PlantGood p) {h : Hour} (hh : hourB h = true) {s : Sky} (hs : insideB s h = true) (j : Int) : yieldI p j s ≤ yieldI p j (bestW p h) := by
  have h1 := hourB_iff.1 hh
  have h2 := inside_iff.1 hs
  have hgain := hg.gain
  have hst := hg.start
  have hx := getI_in hg.sunIn (by omega) j
  have e1 : getI p.sun j * (100 - s.rain) ≤ getI p.sun j * (100 - h.rain.lo) := Int.mul_le_mul_of_nonneg_left (by omega) hx.1
  have e2 : getI p.sun j * (100 - s.rain) / 100 ≤ getI p.sun j * (100 - h.rain.lo) / 100 := Int.ediv_le_ediv (by decide) e1
  have hbr : (bestW p h).rain = h.rain.lo := rfl
  have hbw : (bestW p h).wind = if decide (p.stop < h.wind.hi) && decide (p.stop ≥ h.wind.lo) then p.stop else h.wind.hi := rfl
  have hbi := inside_iff.1 (best_in (p := p) hh)
  unfold yieldI
  rw [hbr]
  generalize (bestW p h).wind = w at hbw hbi ⊢
  have g0 : 0 ≤ p.gain * w := Int.mul_nonneg hgain.1 (by omega)
  have key : (if withinB s.wind p.start p.stop then p.gain * s.wind else 0) ≤ if withinB w p.start p.stop then p.gain * w else 0 := by
    have hnn : 0 ≤ if withinB w p.start p.stop then p.gain * w else 0 := by split <;> omega
    by_cases q2 : withinB s.wind p.start p.stop = true
    · have q3 := within_iff.1 q2
      rw [if_pos q2]
      by_cases q1 : (decide (p.stop < h.wind.hi) && decide (p.stop ≥ h.wind.lo)) = true
      · rw [if_pos q1] at hbw
        subst hbw
        rw [if_pos (within_iff.2 (by omega))]
        exact Int.mul_le_mul_of_nonneg_left (by omega) hgain.1
      · rw [if_neg q1] at hbw
        subst hbw
        have q4 : ¬ (p.stop < h.wind.hi ∧ p.stop ≥ h.wind.lo) := by simpa using q1
        rw [if_pos (within_iff.2 (by omega))]
        exact Int.mul_le_mul_of_nonneg_left (by omega) hgain.1
    · rw [if_neg q2]
      exact hnn
  omega

theorem highF_spec (p : Plant) (j : Int) (h : Hour) : ∀ k, (∀ i : Nat, i < k → yieldW p j ⟨h.wind.lo + i, h.rain.lo, h.temp.lo⟩ ≤ yieldW p j (highF p j h k)) ∧ ∃ i : Nat, i < k + 1 ∧ (i < k ∨ i = 0) ∧ highF p j h k = ⟨h.wind.lo + i, h.rain.lo, h.temp.lo⟩
  | 0 => ⟨fun i hi => by omega, 0, by omega, Or.inr rfl, by simp [highF]⟩
  | k + 1 => by
    obtain ⟨h1, i, h2, h3, h4⟩ := highF_spec p j h k
    rw [highF]
    by_cases hc : yieldW p j ⟨h.wind.lo + k, h.rain.lo, h.temp.lo⟩ > yieldW p j (highF p j h k)
    · rw [if_pos hc]
      refine ⟨fun i hi => ?_, k, by omega, by omega, rfl⟩
      rcases Nat.lt_succ_iff_lt_or_eq.1 hi with h5 | rfl
      · have := h1 i h5; omega
      · exact Int.le_refl _
    · rw [if_neg hc]
      refine ⟨fun i hi => ?_, i, by omega, by omega, h4⟩
      rcases Nat.lt_succ_iff_lt_or_eq.1 hi with h5 | rfl
      · exact h1 i h5
      · omega

theorem high_best {p : Plant} (hg : PlantGood p) {h : Hour} (hh : hourB h = true) (j : Int) : yieldW p j (highF p j h (windsN h)) = yieldW p j (bestW p h) := by
  have hb := hourB_iff.1 hh
  have hN : (windsN h : Int) = h.wind.hi - h.wind.lo + 1 := by unfold windsN; omega
  obtain ⟨h1, i, h2, h3, h4⟩ := highF_spec p j h (windsN h)
  have hin : insideB (highF p j h (windsN h)) h = true := by
    rw [h4, inside_iff]
    dsimp only
    omega
  have hw := best_in (p := p) hh
  have hwi := inside_iff.1 hw
  have e1 := yield_eq hg (skyOk_of hin hh) j
  have e2 := yield_eq hg (skyOk_of hw hh) j
  have e3 := best_most hg hh hin j
  have e4 := h1 ((bestW p h).wind - h.wind.lo).toNat (by omega)
  have e5 : (⟨h.wind.lo + (((bestW p h).wind - h.wind.lo).toNat : Nat), h.rain.lo, h.temp.lo⟩ : Sky) = bestW p h := by
    have : h.wind.lo + (((bestW p h).wind - h.wind.lo).toNat : Int) = (bestW p h).wind := by omega
    rw [this]
    rfl
  rw [e5] at e4
  omega

theorem best_point {p : Plant} (hg : PlantGood p) (s : Sky) : bestW p (pointH s) = s := by
  unfold bestW pointH
  dsimp only
  split
  · rename_i q
    have q : p.stop < s.wind ∧ p.stop ≥ s.wind := by simpa using q
    omega
  · rfl

theorem skies_high {p : Plant} (hg : PlantGood p) {l : List Hour} (hl : l ∈ p.scen) {j : Nat} (hj : j < p.sun.length) :
    yieldW p j (skiesP p l j).2 = yieldW p j (bestW p (hourAt (seenHours p.seen l) (j : Int))) := by
  have hsp := sights_spec hg.sights
  have hlen := hg.fore.len l hl
  have hsun := hg.sun
  have hsa := seenHours_at (seen := p.seen) (l := l) j (sight_range hg hl) hsp.2.1
  unfold skiesP
  cases hf : p.seen.find? (fun s => s.hour == (j : Int)) with
  | some s =>
    have h1 := List.mem_of_find?_eq_some hf
    have h2 := List.find?_some hf
    rw [hsa.1 s h1 (by simpa using h2), best_point hg]
  | none =>
    have h1 := List.find?_eq_none.1 hf
    rw [hsa.2 (fun s hs he => h1 s hs (by simpa using he))]
    exact high_best hg (hg.fore.hour l hl _ (List.mem_of_getElem? (hourAt_get (i := (j : Int)) ⟨by omega, by omega⟩))) j
end Go.Ab
namespace Go.Ab
open Go.RowKit Go.Proofs
set_option maxHeartbeats 8000000
set_option maxRecDepth 20000
attribute [local irreducible] WalkL Walk

theorem f34 (p : Plant) (hs : PlantSmall p) : Fn Try.prog 34 [.agg p.cells] (.tup [.sl (yieldsP p).1, .i (yieldsP p).2]) := by
  have h36 := f36 p hs
  by_cases hz : plantE p = 0
  · have hg := plant_good hz
    obtain ⟨eH, eH1, eH2⟩ := grid_lens hg
    have h33 := f33 p.scen p.seen hs.fore hs.seen
    rw [look_good hg, if_pos rfl] at h33
    have hnl := nums_len (possL p.scen p.seen)
    have hpl := possFrom_len p.seen p.scen 0
    change (possL p.scen p.seen).length ≤ _ at hpl
    have hsc := hs.fore.scen
    have hF := hg.fore.scen
    have hposs := hg.poss
    have hgs : (gridOf p).scen = scensOf (possL p.scen p.seen) := rfl
    have hlow : ∀ h k : Nat, h < p.sun.length → k < (possL p.scen p.seen).length → ∃ (i : Int) (l : List Hour), (numsOf (possL p.scen p.seen))[k]? = some i ∧ 0 ≤ i ∧ p.scen[i.toNat]? = some l ∧
        (lowsG (gridOf p) h)[k]? = some (yieldW p h (skiesP p l h).1) ∧ (highsG (gridOf p) h)[k]? = some (yieldW p h (skiesP p l h).2) := fun h k hh hk => by
      obtain ⟨i, hi⟩ : ∃ i, (numsOf (possL p.scen p.seen))[k]? = some i := ⟨_, List.getElem?_eq_getElem (by omega)⟩
      obtain ⟨h1, l, h2, h3, h4, h5⟩ := nums_get hi
      refine ⟨i, l, hi, h1, h2, ?_, ?_⟩
      · rw [skies_low hg (List.mem_of_getElem? h2) hh, lowsG, hgs, scensOf, List.getElem?_map, List.getElem?_map, h5]
        rfl
      · rw [skies_high hg (List.mem_of_getElem? h2) hh, highsG, hgs, scensOf, List.getElem?_map, List.getElem?_map, h5]
        rfl
    have hlenl : ∀ h, (lowsG (gridOf p) h).length = (possL p.scen p.seen).length ∧ (highsG (gridOf p) h).length = (possL p.scen p.seen).length := fun h => by
      constructor
      · rw [lowsG, List.length_map, hgs, scens_len]
      · rw [highsG, List.length_map, hgs, scens_len]
    rw [yieldsP, openE_nil, if_pos hz]
    obtain ⟨N, eN⟩ : ∃ N, N = numsOf (possL p.scen p.seen) := ⟨_, rfl⟩
    rw [← eN] at h33 hnl
    simp only [← eN] at hlow
    obtain ⟨g, hgg⟩ : ∃ g, g = gridOf p := ⟨_, rfl⟩
    rw [← hgg] at hlow hlenl ⊢
    have hN0 : 0 < N.length := by
      rcases Nat.eq_zero_or_pos N.length with h | h
      · rw [hnl] at h
        exact absurd (List.length_eq_zero_iff.1 h) hposs
      · exact h
    rw [hz] at h36
    have h70 := fun (i j : Int) (l : List Hour) h1 h2 h3 => f70 p i j l hg h1 h2 h3
    have h31 := fun (j : Int) (s : Sky) h1 => f31 p j s h1
    rw [Plant.cells] at h36 h70 h31
    refine fn_walk 88 Try.call34 Try.func34 rfl (by decide) fun J => ?_
    simp (maxSteps := 4000000) only [go_sem, St.start, Try.ntmps34, Try.results34, Plant.cells]
    repeat (first | refine walkL_true rfl ?_ | refine walkL_false rfl ?_ | refine walkL_seq ?_ | refine walkL_skip ?_ | refine walkL_block ?_ | (refine walkL_region fun K hK => ?_; simp (maxSteps := 4000000) only [go_sem]; (repeat (first | (refine ⟨_, .lent (hf := h36) (hd := rfl) (hr := rfl), ?_⟩; simp (maxSteps := 4000000) only [go_sem]) | (refine ⟨_, .lent (hf := h33) (hd := rfl) (hr := rfl), ?_⟩; simp (maxSteps := 4000000) only [go_sem]) | (refine ⟨_, .given (hf := h36) (hd := rfl) (ha := rfl), ?_⟩; simp (maxSteps := 4000000) only [go_sem]) | (refine ⟨_, .given (hf := h33) (hd := rfl) (ha := rfl), ?_⟩; simp (maxSteps := 4000000) only [go_sem]))); refine hK _ ?_; clear hK K) | refine walkL_nil ?_ | refine walkL_ret ?_ | refine walkL_exit ?_ | refine blockA_here ?_ | refine blockA_other rfl ?_ | refine blockA_ret ?_ | refine blockA_normal ?_ | refine thenA_ret ?_ | refine thenA_exit ?_ | refine thenA_normal ?_)
    refine walkL_loopS (fun (h : Nat) => [(8, .d (.i h)), (7, .own 86), (9, .undef), (10, .undef), (11, .undef), (12, .undef)]) (fun h => [(86, some (.arr 62 2 (spansR g h)))]) (fun h => h ≤ p.sun.length) (fun h => p.sun.length - h) 0 ?_ (Nat.zero_le _) ?_
    · simp (maxSteps := 4000000) only [go_sem]
      refine weak_of [86] ?_ ?_ rfl rfl <;> simp [lessT, lessM, lessB, AV.less]
      all_goals first | done | rfl | exact ⟨rfl, rfl⟩
    · intro h hh
      simp (maxSteps := 4000000) only [go_sem]
      repeat (first | refine walkL_seq ?_ | refine walkL_skip ?_ | refine walkL_block ?_ | (refine walkL_region fun K hK => ?_; simp (maxSteps := 4000000) only [go_sem]; refine hK _ ?_; clear hK K) | refine walkL_nil ?_ | refine walkL_ret ?_ | refine walkL_exit ?_ | refine blockA_here ?_ | refine blockA_other rfl ?_ | refine blockA_ret ?_ | refine blockA_normal ?_ | refine thenA_ret ?_ | refine thenA_exit ?_ | refine thenA_normal ?_)
      refine walkL_cond rfl (fun hb => ?_) (fun hb => ?_)
      · have hlt : h < p.sun.length := by simpa using hb
        have hw : IntKind.i64.wrap ((h : Int) + 1) = ((h + 1 : Nat) : Int) := by rw [wr_small (by omega)]; simp
        obtain ⟨i0, l0, k1, k2, k3, k4, k5⟩ := hlow h 0 hlt (by omega)
        have g0 := intRows_at k1
        have a70 := h70 i0 h l0 k2 k3 ⟨by omega, by omega⟩
        obtain ⟨x1, hx1⟩ : ∃ x, x = (skiesP p l0 (h : Int)).1 := ⟨_, rfl⟩
        obtain ⟨x2, hx2⟩ : ∃ x, x = (skiesP p l0 (h : Int)).2 := ⟨_, rfl⟩
        rw [← hx1, ← hx2] at a70
        rw [← hx1] at k4
        rw [← hx2] at k5
        have a1 := h31 h x1 ⟨by omega, by omega⟩
        have a2 := h31 h x2 ⟨by omega, by omega⟩
        rw [Sky.row] at a70 a1 a2
        rw [Sky.row] at a70
        obtain ⟨y1, hy1⟩ : ∃ y, y = yieldW p h x1 := ⟨_, rfl⟩
        obtain ⟨y2, hy2⟩ : ∃ y, y = yieldW p h x2 := ⟨_, rfl⟩
        rw [← hy1] at a1 k4
        rw [← hy2] at a2 k5
        repeat (first | refine walkL_seq ?_ | refine walkL_skip ?_ | refine walkL_block ?_ | (refine walkL_region fun K hK => ?_; simp (maxSteps := 4000000) only [go_sem]; refine hK _ ?_; clear hK K) | refine walkL_nil ?_ | refine walkL_ret ?_ | refine walkL_exit ?_ | refine blockA_here ?_ | refine blockA_other rfl ?_ | refine blockA_ret ?_ | refine blockA_normal ?_ | refine thenA_ret ?_ | refine thenA_exit ?_ | refine thenA_normal ?_)
        refine walkL_drawn (by kernel_rfl) (by kernel_rfl) fun K hK => ?_
        simp (maxSteps := 4000000) only [go_sem, g0]
        refine ⟨_, .fn (hf := a70) (hd := rfl) (hr := .inr rfl), ?_⟩
        simp (maxSteps := 4000000) only [go_sem]
        refine ⟨by kernel_rfl, hK _ ?_⟩
        clear hK K
        repeat (first | refine walkL_true rfl ?_ | refine walkL_false rfl ?_ | refine walkL_seq ?_ | refine walkL_skip ?_ | refine walkL_block ?_ | (refine walkL_region fun K hK => ?_; simp (maxSteps := 4000000) only [go_sem]; (repeat (first | (refine ⟨_, .lent (hf := a1) (hd := rfl) (hr := rfl), ?_⟩; simp (maxSteps := 4000000) only [go_sem]) | (refine ⟨_, .lent (hf := a2) (hd := rfl) (hr := rfl), ?_⟩; simp (maxSteps := 4000000) only [go_sem]) | (refine ⟨_, .given (hf := a1) (hd := rfl) (ha := rfl), ?_⟩; simp (maxSteps := 4000000) only [go_sem]) | (refine ⟨_, .given (hf := a2) (hd := rfl) (ha := rfl), ?_⟩; simp (maxSteps := 4000000) only [go_sem]))); refine hK _ ?_; clear hK K) | (refine walkL_drawn (by kernel_rfl) (by kernel_rfl) fun K hK => ?_; simp (maxSteps := 4000000) only [go_sem]; (repeat (first | (refine ⟨_, .fn (hf := a1) (hd := rfl) (hr := .inl rfl), ?_⟩; simp (maxSteps := 4000000) only [go_sem]) | (refine ⟨_, .fn (hf := a2) (hd := rfl) (hr := .inl rfl), ?_⟩; simp (maxSteps := 4000000) only [go_sem]))); refine ⟨by kernel_rfl, hK _ ?_⟩; clear hK K) | refine walkL_nil ?_ | refine walkL_ret ?_ | refine walkL_exit ?_ | refine blockA_here ?_ | refine blockA_other rfl ?_ | refine blockA_ret ?_ | refine blockA_normal ?_ | refine thenA_ret ?_ | refine thenA_exit ?_ | refine thenA_normal ?_)
        refine walkL_loopS (fun (a : Nat × Sky × Sky) => [(12, .d (.i a.1))]) (fun a => [(9, some (.box [.d (.i a.2.1.wind), .d (.i a.2.1.rain), .d (.i a.2.1.temp)])), (10, some (.box [.d (.i a.2.2.wind), .d (.i a.2.2.rain), .d (.i a.2.2.temp)])), (11, some (.box [.d (.i (((lowsG g h).take a.1).foldl min y1)), .d (.i (((highsG g h).take a.1).foldl max y2))]))]) (fun a => a.1 ≤ N.length) (fun a => N.length - a.1) (0, x1, x2) ?_ (Nat.zero_le _) ?_
        · simp (maxSteps := 4000000) only [go_sem]
          refine weak_of [] ?_ ?_ rfl rfl <;> simp [lessT, lessM, lessB, AV.less]
          all_goals first | done | rfl | exact ⟨rfl, rfl⟩
        · rintro ⟨k, v1, v2⟩ hk
          dsimp only at hk
          simp (maxSteps := 4000000) only [go_sem]
          repeat (first | refine walkL_seq ?_ | refine walkL_skip ?_ | refine walkL_block ?_ | (refine walkL_region fun K hK => ?_; simp (maxSteps := 4000000) only [go_sem]; refine hK _ ?_; clear hK K) | refine walkL_nil ?_ | refine walkL_ret ?_ | refine walkL_exit ?_ | refine blockA_here ?_ | refine blockA_other rfl ?_ | refine blockA_ret ?_ | refine blockA_normal ?_ | refine thenA_ret ?_ | refine thenA_exit ?_ | refine thenA_normal ?_)
          refine walkL_cond rfl (fun hb => ?_) (fun hb => ?_)
          · have hltk : k < N.length := by simpa using hb
            have hwk : IntKind.i64.wrap ((k : Int) + 1) = ((k + 1 : Nat) : Int) := by rw [wr_small (by omega)]; simp
            obtain ⟨i1, l1, j1, j2, j3, j4, j5⟩ := hlow h k hlt (by omega)
            have gk := intRows_at j1
            have b70 := h70 i1 h l1 j2 j3 ⟨by omega, by omega⟩
            obtain ⟨u1, hu1⟩ : ∃ x, x = (skiesP p l1 (h : Int)).1 := ⟨_, rfl⟩
            obtain ⟨u2, hu2⟩ : ∃ x, x = (skiesP p l1 (h : Int)).2 := ⟨_, rfl⟩
            rw [← hu1, ← hu2] at b70
            rw [← hu1] at j4
            rw [← hu2] at j5
            have b1 := h31 h u1 ⟨by omega, by omega⟩
            have b2 := h31 h u2 ⟨by omega, by omega⟩
            rw [Sky.row] at b70 b1 b2
            rw [Sky.row] at b70
            have n1 := foldl_take_succ min y1 (lowsG g h) k _ j4
            have n2 := foldl_take_succ max y2 (highsG g h) k _ j5
            obtain ⟨z1, hz1⟩ : ∃ y, y = yieldW p h u1 := ⟨_, rfl⟩
            obtain ⟨z2, hz2⟩ : ∃ y, y = yieldW p h u2 := ⟨_, rfl⟩
            rw [← hz1] at b1 n1
            rw [← hz2] at b2 n2
            repeat (first | refine walkL_seq ?_ | refine walkL_skip ?_ | refine walkL_block ?_ | (refine walkL_region fun K hK => ?_; simp (maxSteps := 4000000) only [go_sem]; refine hK _ ?_; clear hK K) | refine walkL_nil ?_ | refine walkL_ret ?_ | refine walkL_exit ?_ | refine blockA_here ?_ | refine blockA_other rfl ?_ | refine blockA_ret ?_ | refine blockA_normal ?_ | refine thenA_ret ?_ | refine thenA_exit ?_ | refine thenA_normal ?_)
            refine walkL_drawn (by kernel_rfl) (by kernel_rfl) fun K hK => ?_
            simp (maxSteps := 4000000) only [go_sem, gk]
            refine ⟨_, .fn (hf := b70) (hd := rfl) (hr := .inr rfl), ?_⟩
            simp (maxSteps := 4000000) only [go_sem]
            refine ⟨by kernel_rfl, hK _ ?_⟩
            clear hK K
            repeat (first | refine walkL_true rfl ?_ | refine walkL_false rfl ?_ | refine walkL_seq ?_ | refine walkL_skip ?_ | refine walkL_block ?_ | (refine walkL_region fun K hK => ?_; simp (maxSteps := 4000000) only [go_sem, hwk]; (repeat (first | (refine ⟨_, .lent (hf := b1) (hd := rfl) (hr := rfl), ?_⟩; simp (maxSteps := 4000000) only [go_sem, hwk]) | (refine ⟨_, .lent (hf := b2) (hd := rfl) (hr := rfl), ?_⟩; simp (maxSteps := 4000000) only [go_sem, hwk]) | (refine ⟨_, .given (hf := b1) (hd := rfl) (ha := rfl), ?_⟩; simp (maxSteps := 4000000) only [go_sem, hwk]) | (refine ⟨_, .given (hf := b2) (hd := rfl) (ha := rfl), ?_⟩; simp (maxSteps := 4000000) only [go_sem, hwk]))); refine hK _ ?_; clear hK K) | (refine walkL_drawn (by kernel_rfl) (by kernel_rfl) fun K hK => ?_; simp (maxSteps := 4000000) only [go_sem, hwk]; (repeat (first | (refine ⟨_, .fn (hf := b1) (hd := rfl) (hr := .inl rfl), ?_⟩; simp (maxSteps := 4000000) only [go_sem, hwk]) | (refine ⟨_, .fn (hf := b2) (hd := rfl) (hr := .inl rfl), ?_⟩; simp (maxSteps := 4000000) only [go_sem, hwk]))); refine ⟨by kernel_rfl, hK _ ?_⟩; clear hK K) | refine walkL_nil ?_ | refine walkL_ret ?_ | refine walkL_exit ?_ | refine blockA_here ?_ | refine blockA_other rfl ?_ | refine blockA_ret ?_ | refine blockA_normal ?_ | refine thenA_ret ?_ | refine thenA_exit ?_ | refine thenA_normal ?_)
            refine ⟨rfl, (k + 1, u1, u2), ?_, hltk, by dsimp only; omega⟩
            dsimp only
            rw [n1, n2]
            refine weak_of [] ?_ ?_ rfl rfl <;> simp [lessT, lessM, lessB, AV.less]
            all_goals first | done | rfl | exact ⟨rfl, rfl⟩
          · have he : k = N.length := by (have : ¬ k < N.length := by simpa using hb); omega
            subst he
            obtain ⟨q1, q2⟩ := hlenl h
            rw [hnl, ← q1, List.take_length, q1, ← q2, List.take_length]
            have m1 : (lowsG g h).foldl min y1 = minL (lowsG g h) := by
              cases hq : lowsG g h with
              | nil => rw [hq] at k4; cases k4
              | cons a t =>
                rw [hq] at k4
                have : a = y1 := by simpa using k4
                subst this
                rw [List.foldl_cons, minL, Int.min_self]
            have m2 : (highsG g h).foldl max y2 = maxL (highsG g h) := by
              cases hq : highsG g h with
              | nil => rw [hq] at k5; cases k5
              | cons a t =>
                rw [hq] at k5
                have : a = y2 := by simpa using k5
                subst this
                rw [List.foldl_cons, maxL, Int.max_self]
            rw [m1, m2]
            have n1 := spansR_push g h
            have n3 := spansR_len g h
            rw [spanR] at n1
            have hn : (spansR g h).length + 1 ≤ 549755813888 := by rw [n3]; omega
            have hhd := spansR_head g h
            repeat (first | refine walkL_seq ?_ | refine walkL_skip ?_ | refine walkL_block ?_ | (refine walkL_region fun K hK => ?_; simp (maxSteps := 4000000) only [go_sem, hn, hhd, hw]; refine hK _ ?_; clear hK K) | refine walkL_nil ?_ | refine walkL_ret ?_ | refine walkL_exit ?_ | refine blockA_here ?_ | refine blockA_other rfl ?_ | refine blockA_ret ?_ | refine blockA_normal ?_ | refine thenA_ret ?_ | refine thenA_exit ?_ | refine thenA_normal ?_)
            refine ⟨rfl, h + 1, ?_, hlt, by omega⟩
            rw [n1]
            refine weak_of [] ?_ ?_ rfl rfl <;> simp [lessT, lessM, lessB, AV.less]
            all_goals first | done | rfl | exact ⟨rfl, rfl⟩
      · have he : h = p.sun.length := by (have : ¬ h < p.sun.length := by simpa using hb); omega
        subst he
        repeat (first | refine walkL_seq ?_ | refine walkL_skip ?_ | refine walkL_block ?_ | (refine walkL_region fun K hK => ?_; simp (maxSteps := 4000000) only [go_sem]; refine hK _ ?_; clear hK K) | refine walkL_nil ?_ | refine walkL_ret ?_ | refine walkL_exit ?_ | refine blockA_here ?_ | refine blockA_other rfl ?_ | refine blockA_ret ?_ | refine blockA_normal ?_ | refine thenA_ret ?_ | refine thenA_exit ?_ | refine thenA_normal ?_)
        simp (maxSteps := 4000000) only [go_sem]
  · rw [yieldsP, openE_nil, if_neg hz]
    rw [Plant.cells] at h36
    obtain ⟨e, he⟩ : ∃ e, e = plantE p := ⟨_, rfl⟩
    rw [← he] at h36 hz ⊢
    have q : (e != 0) = true := by simpa using hz
    refine fn_walk 88 Try.call34 Try.func34 rfl (by decide) fun J => ?_
    simp (maxSteps := 4000000) only [go_sem, St.start, Try.ntmps34, Try.results34, Plant.cells]
    repeat (first | refine walkL_true rfl ?_ | refine walkL_false rfl ?_ | refine walkL_seq ?_ | refine walkL_skip ?_ | refine walkL_block ?_ | (refine walkL_region fun K hK => ?_; simp (maxSteps := 4000000) only [go_sem, q]; (repeat (first | (refine ⟨_, .lent (hf := h36) (hd := rfl) (hr := rfl), ?_⟩; simp (maxSteps := 4000000) only [go_sem, q]) | (refine ⟨_, .given (hf := h36) (hd := rfl) (ha := rfl), ?_⟩; simp (maxSteps := 4000000) only [go_sem, q]))); refine hK _ ?_; clear hK K) | refine walkL_nil ?_ | refine walkL_ret ?_ | refine walkL_exit ?_ | refine blockA_here ?_ | refine blockA_other rfl ?_ | refine blockA_ret ?_ | refine blockA_normal ?_ | refine thenA_ret ?_ | refine thenA_exit ?_ | refine thenA_normal ?_)
    simp (maxSteps := 4000000) only [go_sem]
    try rfl
end Go.Ab
namespace Go.Ab
open Go.RowKit Go.Proofs
set_option maxHeartbeats 8000000
set_option maxRecDepth 20000
attribute [local irreducible] WalkL Walk

theorem f11 (p : Plant) (hs : PlantSmall p) : Fn Try.prog 11 [.agg p.cells] (.bool true) := by
  have h18 := f18 p hs
  have h15 := f15
  cases hf : far10 p
  case true =>
    rw [hf, Plant.cells] at h18
    refine fn_walk 57 Try.call11 Try.func11 rfl (by decide) fun J => ?_
    simp (maxSteps := 4000000) only [go_sem, St.start, Try.ntmps11, Try.results11, Plant.cells]
    repeat (first | refine walkL_true rfl ?_ | refine walkL_false rfl ?_ | refine walkL_seq ?_ | refine walkL_skip ?_ | refine walkL_block ?_ | (refine walkL_region fun K hK => ?_; simp (maxSteps := 4000000) only [go_sem]; (repeat (first | (refine ⟨_, .lent (hf := h18) (hd := rfl) (hr := rfl), ?_⟩; simp (maxSteps := 4000000) only [go_sem]) | (refine ⟨_, .lent (hf := h15) (hd := rfl) (hr := rfl), ?_⟩; simp (maxSteps := 4000000) only [go_sem]) | (refine ⟨_, .given (hf := h18) (hd := rfl) (ha := rfl), ?_⟩; simp (maxSteps := 4000000) only [go_sem]) | (refine ⟨_, .given (hf := h15) (hd := rfl) (ha := rfl), ?_⟩; simp (maxSteps := 4000000) only [go_sem]))); refine hK _ ?_; clear hK K) | refine walkL_nil ?_ | refine walkL_ret ?_ | refine walkL_exit ?_ | refine blockA_here ?_ | refine blockA_other rfl ?_ | refine blockA_ret ?_ | refine blockA_normal ?_ | refine thenA_ret ?_ | refine thenA_exit ?_ | refine thenA_normal ?_)
    simp (maxSteps := 4000000) only [go_sem]
  case false =>
  have h16 := f16 p hs
  have h32 := f32 p hs
  have h34 := f34 p hs
  have h35 := f35 p hs
  have h36 := f36 p hs
  rw [openE_nil] at h35
  have hrow : (yieldsP p).1.length < 2 ^ 30 ∧ ∀ r ∈ (yieldsP p).1, ∃ a b : Int, r = [.i a, .i b] := by
    unfold yieldsP
    split
    · refine ⟨by rw [spansR_len]; exact hs.sun, fun r hr => ?_⟩
      obtain ⟨j, _, rfl⟩ := List.mem_map.1 hr
      exact ⟨_, _, rfl⟩
    · exact ⟨by simp, fun r hr => by simp at hr⟩
  obtain ⟨Y, hY⟩ : ∃ Y, Y = yieldsP p := ⟨_, rfl⟩
  obtain ⟨E, hE⟩ : ∃ E, E = plantE p := ⟨_, rfl⟩
  rw [← hY] at h32 h34 hrow
  rw [← hE] at h35 h36
  obtain ⟨L, e⟩ := Y
  obtain ⟨hLl, hL⟩ := hrow
  dsimp only at hLl hL h32 h34
  have q1 : (E != E) = false := by simp
  have q2 : (e != e) = false := by simp
  have q3 : ((L.length : Int) != L.length) = false := by simp
  rw [hf] at h18
  rw [Plant.cells] at h18 h16 h32 h34 h35 h36
  refine fn_walk 57 Try.call11 Try.func11 rfl (by decide) fun J => ?_
  simp (maxSteps := 4000000) only [go_sem, St.start, Try.ntmps11, Try.results11, Plant.cells]
  repeat (first | refine walkL_true rfl ?_ | refine walkL_false rfl ?_ | refine walkL_seq ?_ | refine walkL_skip ?_ | refine walkL_block ?_ | (refine walkL_region fun K hK => ?_; simp (maxSteps := 4000000) only [go_sem]; (repeat (first | (refine ⟨_, .lent (hf := h18) (hd := rfl) (hr := rfl), ?_⟩; simp (maxSteps := 4000000) only [go_sem]) | (refine ⟨_, .lent (hf := h15) (hd := rfl) (hr := rfl), ?_⟩; simp (maxSteps := 4000000) only [go_sem]) | (refine ⟨_, .lent (hf := h16) (hd := rfl) (hr := rfl), ?_⟩; simp (maxSteps := 4000000) only [go_sem]) | (refine ⟨_, .lent (hf := h32) (hd := rfl) (hr := rfl), ?_⟩; simp (maxSteps := 4000000) only [go_sem]) | (refine ⟨_, .lent (hf := h34) (hd := rfl) (hr := rfl), ?_⟩; simp (maxSteps := 4000000) only [go_sem]) | (refine ⟨_, .given (hf := h18) (hd := rfl) (ha := rfl), ?_⟩; simp (maxSteps := 4000000) only [go_sem]) | (refine ⟨_, .given (hf := h15) (hd := rfl) (ha := rfl), ?_⟩; simp (maxSteps := 4000000) only [go_sem]) | (refine ⟨_, .given (hf := h16) (hd := rfl) (ha := rfl), ?_⟩; simp (maxSteps := 4000000) only [go_sem]) | (refine ⟨_, .given (hf := h32) (hd := rfl) (ha := rfl), ?_⟩; simp (maxSteps := 4000000) only [go_sem]) | (refine ⟨_, .given (hf := h34) (hd := rfl) (ha := rfl), ?_⟩; simp (maxSteps := 4000000) only [go_sem]))); refine hK _ ?_; clear hK K) | refine walkL_nil ?_ | refine walkL_ret ?_ | refine walkL_exit ?_ | refine blockA_here ?_ | refine blockA_other rfl ?_ | refine blockA_ret ?_ | refine blockA_normal ?_ | refine thenA_ret ?_ | refine thenA_exit ?_ | refine thenA_normal ?_)
  repeat (first | refine walkL_true rfl ?_ | refine walkL_false rfl ?_ | refine walkL_seq ?_ | refine walkL_skip ?_ | refine walkL_block ?_ | (refine walkL_region fun K hK => ?_; simp (maxSteps := 4000000) only [go_sem, q1, q2, q3]; (repeat (first | (refine ⟨_, .lent (hf := h35) (hd := rfl) (hr := rfl), ?_⟩; simp (maxSteps := 4000000) only [go_sem, q1, q2, q3]) | (refine ⟨_, .lent (hf := h36) (hd := rfl) (hr := rfl), ?_⟩; simp (maxSteps := 4000000) only [go_sem, q1, q2, q3]) | (refine ⟨_, .given (hf := h35) (hd := rfl) (ha := rfl), ?_⟩; simp (maxSteps := 4000000) only [go_sem, q1, q2, q3]) | (refine ⟨_, .given (hf := h36) (hd := rfl) (ha := rfl), ?_⟩; simp (maxSteps := 4000000) only [go_sem, q1, q2, q3]))); refine hK _ ?_; clear hK K) | (refine walkL_drawn (by kernel_rfl) (by kernel_rfl) fun K hK => ?_; simp (maxSteps := 4000000) only [go_sem, q1, q2, q3]; (repeat (first | (refine ⟨_, .fn (hf := h35) (hd := rfl) (hr := .inl rfl), ?_⟩; simp (maxSteps := 4000000) only [go_sem, q1, q2, q3]) | (refine ⟨_, .fn (hf := h36) (hd := rfl) (hr := .inl rfl), ?_⟩; simp (maxSteps := 4000000) only [go_sem, q1, q2, q3]))); refine ⟨by kernel_rfl, hK _ ?_⟩; clear hK K) | refine walkL_nil ?_ | refine walkL_ret ?_ | refine walkL_exit ?_ | refine blockA_here ?_ | refine blockA_other rfl ?_ | refine blockA_ret ?_ | refine blockA_normal ?_ | refine thenA_ret ?_ | refine thenA_exit ?_ | refine thenA_normal ?_)
  refine walkL_loopS (fun (i : Nat) => [(8, .d (.i i))]) (fun _ => []) (fun i => i ≤ L.length) (fun i => L.length - i) 0 ?_ (Nat.zero_le _) ?_
  · simp (maxSteps := 4000000) only [go_sem]
    refine weak_of [] ?_ ?_ rfl rfl <;> simp [lessT, lessM, lessB, AV.less]
  · intro i hi
    simp (maxSteps := 4000000) only [go_sem]
    repeat (first | refine walkL_seq ?_ | refine walkL_skip ?_ | refine walkL_block ?_ | (refine walkL_region fun K hK => ?_; simp (maxSteps := 4000000) only [go_sem]; refine hK _ ?_; clear hK K) | refine walkL_nil ?_ | refine walkL_ret ?_ | refine walkL_exit ?_ | refine blockA_here ?_ | refine blockA_other rfl ?_ | refine blockA_ret ?_ | refine blockA_normal ?_ | refine thenA_ret ?_ | refine thenA_exit ?_ | refine thenA_normal ?_)
    refine walkL_cond rfl (fun hb => ?_) (fun hb => ?_)
    · have hlt : i < L.length := by simpa using hb
      have hw : IntKind.i64.wrap ((i : Int) + 1) = ((i + 1 : Nat) : Int) := by rw [wr_small (by omega)]; simp
      obtain ⟨r, hr⟩ : ∃ r, L[i]? = some r := ⟨_, List.getElem?_eq_getElem hlt⟩
      obtain ⟨a, b, rfl⟩ := hL r (List.mem_of_getElem? hr)
      have t1 : (a == a) = true := by simp
      have t2 : (b == b) = true := by simp
      repeat (first | refine walkL_true rfl ?_ | refine walkL_false rfl ?_ | refine walkL_seq ?_ | refine walkL_skip ?_ | refine walkL_block ?_ | (refine walkL_region fun K hK => ?_; simp (maxSteps := 4000000) only [go_sem, hr, t1, t2, hw]; refine hK _ ?_; clear hK K) | (refine walkL_drawn (by kernel_rfl) (by kernel_rfl) fun K hK => ?_; simp (maxSteps := 4000000) only [go_sem, hr, t1, t2, hw]; refine ⟨by kernel_rfl, hK _ ?_⟩; clear hK K) | refine walkL_nil ?_ | refine walkL_ret ?_ | refine walkL_exit ?_ | refine blockA_here ?_ | refine blockA_other rfl ?_ | refine blockA_ret ?_ | refine blockA_normal ?_ | refine thenA_ret ?_ | refine thenA_exit ?_ | refine thenA_normal ?_)
      refine ⟨rfl, i + 1, ?_, hlt, by omega⟩
      refine weak_of [] ?_ ?_ rfl rfl <;> simp [lessT, lessM, lessB, AV.less]
    · have he : i = L.length := by (have : ¬ i < L.length := by simpa using hb); omega
      subst he
      repeat (first | refine walkL_true rfl ?_ | refine walkL_false rfl ?_ | refine walkL_seq ?_ | refine walkL_skip ?_ | refine walkL_block ?_ | (refine walkL_region fun K hK => ?_; simp (maxSteps := 4000000) only [go_sem]; (repeat (first | (refine ⟨_, .lent (hf := h15) (hd := rfl) (hr := rfl), ?_⟩; simp (maxSteps := 4000000) only [go_sem]) | (refine ⟨_, .given (hf := h15) (hd := rfl) (ha := rfl), ?_⟩; simp (maxSteps := 4000000) only [go_sem]))); refine hK _ ?_; clear hK K) | refine walkL_nil ?_ | refine walkL_ret ?_ | refine walkL_exit ?_ | refine blockA_here ?_ | refine blockA_other rfl ?_ | refine blockA_ret ?_ | refine blockA_normal ?_ | refine thenA_ret ?_ | refine thenA_exit ?_ | refine thenA_normal ?_)
      simp (maxSteps := 4000000) only [go_sem]
end Go.Ab
