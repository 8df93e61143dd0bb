/- A walk engine over abstract states, and the contracts of the functions that the statement reaches: part 6. -/
import Derived.Test.YtnlodbjgmfmlnaaGreatWe
set_option linter.unusedVariables false
set_option linter.unusedSimpArgs false
set_option linter.unnecessarySimpa false
namespace Go.Ab
open Go.RowKit Go.Proofs
set_option maxHeartbeats 16000000
set_option maxRecDepth 20000
attribute [local irreducible] WalkL Walk
def badK (s : Supply) (T : List (Int × Int)) (U : List Int) : Bool := !valid6 s || (decide ((T.length : Int) > 60) || (decide ((U.length : Int) > 100) || (!tripsB s T || !usesB s U)))
theorem valid_zero {s : Supply} (h : valid6 s = true) : suppE s = 0 := by
  simp only [valid6, Bool.and_eq_true, beq_iff_eq] at h
  exact h.2
theorem uses_in {s : Supply} (h0 : suppE s = 0) {U : List Int} (h : usesB s U = true) : U.length = s.hours ∧ (∀ j < s.hours, (intRows U)[j]? = some [.i (uAt U j)] ∧ s.use.lo ≤ uAt U j ∧ uAt U j ≤ s.use.hi) := by
  rw [usesB, Bool.and_eq_true, List.all_eq_true, beq_iff_eq] at h
  have hl : U.length = s.hours := by omega
  refine ⟨hl, fun j hj => ?_⟩
  obtain ⟨x, hx⟩ : ∃ x, U[j]? = some x := ⟨_, List.getElem?_eq_getElem (by omega)⟩
  have e : uAt U j = x := by rw [uAt, getI, Int.toNat_natCast, List.getD, hx]; rfl
  rw [intRows_at hx, e]
  exact ⟨rfl, within_iff.1 (h.1 x (List.mem_of_getElem? hx))⟩
theorem stocksL_at {s : Supply} (T : List (Int × Int)) (U : List Int) {h : Nat} (hh : h < s.hours) : (intRows (stocksL s T U))[h]? = some [.i (stockAt s T (uAt U) (h + 1))] := by
  rw [intRows_at (x := stockAt s T (uAt U) (h + 1))]
  rw [stocksL, rowQ_at _ _ hh]
  rfl
theorem stocks_ok {s : Supply} {T : List (Int × Int)} {U : List Int} (h1 : openE6 s T = 0) (h2 : usesB s U = true) : stocksE s T U = 0 := by rw [stocksE, if_pos h1, h2]; rfl
theorem zf4 (s : Supply) (T : List (Int × Int)) (U : List Int) (hs : SuppSmall s) (hTl : T.length < 2 ^ 30) (hUl : U.length < 2 ^ 30) : Fn Tryz.prog 4 [.agg s.cells, .sl (tripRows T), .sl (intRows U)] (.bool true) := by
  have h19 := zf19 s hs
  have h12 := zf12
  have h14 := zf14 s T U hs hTl hUl
  have h22 := zf22 s hs
  have h17 := zf17 s T hs hTl
  have h20 : valid6 s = true → _ := fun h => zf20 s T (valid_zero h) hs hTl
  have h21 : valid6 s = true → Fn Tryz.prog 21 [.agg s.cells, .sl (intRows U)] (.bool (usesB s U)) := fun h =>
    let ⟨hg, _⟩ := look_all (supp_look (valid_zero h)); zf21 s U (hd0 s.scen) (headD_get (by have := hg.scen; omega)) hUl
  rw [Supply.cells] at h19 h14 h22 h17 h20 h21
  refine fn_walk 177 Tryz.call4 Tryz.func4 rfl (by decide) fun J => ?_
  simp (maxSteps := 4000000) only [go_sem, St.start, Tryz.ntmps4, Tryz.results4, Supply.cells]
  repeat (first | refine walkL_seq ?_ | refine walkL_skip ?_ | refine walkL_block ?_ | (refine walkL_region fun K hK => ?_; simp (maxSteps := 4000000) only [go_sem]; refine hK _ ?_; clear hK K) | refine walkL_nil ?_ | refine walkL_ret ?_ | refine walkL_exit ?_ | refine blockA_here ?_ | refine blockA_other rfl ?_ | refine blockA_ret ?_ | refine blockA_normal ?_ | refine thenA_ret ?_ | refine thenA_exit ?_ | refine thenA_normal ?_)
  refine walkL_meetS [(44, .d (.bool (badK s T U)))] [] ?_ ?_
  · refine walkL_region fun K hK => ?_
    simp (maxSteps := 4000000) only [go_sem, tripRows_len, intRows_len]
    refine ⟨_, .lent (hf := h19) (hd := rfl) (hr := rfl), ?_⟩
    simp (maxSteps := 4000000) only [go_sem, tripRows_len, intRows_len]
    by_cases ho0 : (!valid6 s) = true
    · simp (maxSteps := 4000000) only [go_sem, tripRows_len, intRows_len, ho0]
      refine hK _ ?_
      clear hK K
      refine walkL_nil ?_
      refine thenA_normal ?_
      refine ⟨rfl, ?_⟩
      rw [show (badK s T U) = (true) from by simp [badK, ho0]]
      simp (maxSteps := 4000000) only [go_sem]
      refine weak_of [] ?_ ?_ rfl rfl <;> simp [lessT, lessM, lessB, AV.less]
    · simp (maxSteps := 4000000) only [go_sem, tripRows_len, intRows_len, ho0]
      by_cases ho1 : (decide ((T.length : Int) > 60)) = true
      · simp (maxSteps := 4000000) only [go_sem, tripRows_len, intRows_len, ho0, ho1]
        refine hK _ ?_
        clear hK K
        refine walkL_nil ?_
        refine thenA_normal ?_
        refine ⟨rfl, ?_⟩
        rw [show (badK s T U) = (true) from by simp [badK, ho0, ho1]]
        simp (maxSteps := 4000000) only [go_sem]
        refine weak_of [] ?_ ?_ rfl rfl <;> simp [lessT, lessM, lessB, AV.less]
      · simp (maxSteps := 4000000) only [go_sem, tripRows_len, intRows_len, ho0, ho1]
        by_cases ho2 : (decide ((U.length : Int) > 100)) = true
        · simp (maxSteps := 4000000) only [go_sem, tripRows_len, intRows_len, ho0, ho1, ho2]
          refine hK _ ?_
          clear hK K
          refine walkL_nil ?_
          refine thenA_normal ?_
          refine ⟨rfl, ?_⟩
          rw [show (badK s T U) = (true) from by simp [badK, ho0, ho1, ho2]]
          simp (maxSteps := 4000000) only [go_sem]
          refine weak_of [] ?_ ?_ rfl rfl <;> simp [lessT, lessM, lessB, AV.less]
        · simp (maxSteps := 4000000) only [go_sem, tripRows_len, intRows_len, ho0, ho1, ho2]
          refine ⟨_, .lent (hf := h20 (by simpa using ho0)) (hd := rfl) (hr := rfl), ?_⟩
          simp (maxSteps := 4000000) only [go_sem, tripRows_len, intRows_len, ho0, ho1, ho2]
          by_cases ho3 : (!tripsB s T) = true
          · simp (maxSteps := 4000000) only [go_sem, tripRows_len, intRows_len, ho0, ho1, ho2, ho3]
            refine hK _ ?_
            clear hK K
            refine walkL_nil ?_
            refine thenA_normal ?_
            refine ⟨rfl, ?_⟩
            rw [show (badK s T U) = (true) from by simp [badK, ho0, ho1, ho2, ho3]]
            simp (maxSteps := 4000000) only [go_sem]
            refine weak_of [] ?_ ?_ rfl rfl <;> simp [lessT, lessM, lessB, AV.less]
          · simp (maxSteps := 4000000) only [go_sem, tripRows_len, intRows_len, ho0, ho1, ho2, ho3]
            refine ⟨_, .lent (hf := h21 (by simpa using ho0)) (hd := rfl) (hr := rfl), ?_⟩
            simp (maxSteps := 4000000) only [go_sem, tripRows_len, intRows_len, ho0, ho1, ho2, ho3]
            refine hK _ ?_
            clear hK K
            refine walkL_nil ?_
            refine thenA_normal ?_
            refine ⟨rfl, ?_⟩
            rw [show (badK s T U) = (!usesB s U) from by simp [badK, ho0, ho1, ho2, ho3]]
            simp (maxSteps := 4000000) only [go_sem]
            refine weak_of [] ?_ ?_ rfl rfl <;> simp [lessT, lessM, lessB, AV.less]
  simp (maxSteps := 4000000) only [go_sem]
  repeat (first | refine walkL_seq ?_ | refine walkL_skip ?_ | refine walkL_block ?_ | (refine walkL_region fun K hK => ?_; simp (maxSteps := 4000000) only [go_sem]; refine hK _ ?_; clear hK K) | refine walkL_nil ?_ | refine walkL_ret ?_ | refine walkL_exit ?_ | refine blockA_here ?_ | refine blockA_other rfl ?_ | refine blockA_ret ?_ | refine blockA_normal ?_ | refine thenA_ret ?_ | refine thenA_exit ?_ | refine thenA_normal ?_)
  refine walkL_cond rfl (fun hc => ?_) (fun hc => ?_)
  · repeat (first | refine walkL_seq ?_ | refine walkL_skip ?_ | refine walkL_block ?_ | (refine walkL_region fun K hK => ?_; simp (maxSteps := 4000000) only [go_sem]; (repeat (first | (refine ⟨_, .lent (hf := h12) (hd := rfl) (hr := rfl), ?_⟩; simp (maxSteps := 4000000) only [go_sem]) | (refine ⟨_, .given (hf := h12) (hd := rfl) (ha := rfl), ?_⟩; simp (maxSteps := 4000000) only [go_sem]))); refine hK _ ?_; clear hK K) | refine walkL_nil ?_ | refine walkL_ret ?_ | refine walkL_exit ?_ | refine blockA_here ?_ | refine blockA_other rfl ?_ | refine blockA_ret ?_ | refine blockA_normal ?_ | refine thenA_ret ?_ | refine thenA_exit ?_ | refine thenA_normal ?_)
    simp (maxSteps := 4000000) only [go_sem]
  · have hbad := hc
    simp only [badK, Bool.or_eq_false_iff, Bool.not_eq_false', decide_eq_false_iff_not] at hbad
    obtain ⟨b1, b2, b3, b4, b5⟩ := hbad
    have h0 := valid_zero b1
    have hz := openE6_zero.2 ⟨h0, b4⟩
    have hT := trips_good b4
    have h6 := small6 h0
    have hH := h6.hours
    obtain ⟨hul, hua⟩ := uses_in h0 b5
    obtain ⟨_, _, _, r4⟩ := store_good h0
    have hrow : ∀ c h : Nat, c < s.carr.length → h < s.hours → _ := fun c h hc hh => ld_row h0 hc hh
    have hsr : ∀ k, k ≤ s.hours → _ := fun k hk => stockAt_range h0 hT (u := uAt U) k (fun j hj => by have := hua j (by omega); omega)
    rw [stocks_ok hz b5, if_pos rfl] at h14
    rw [h0, if_pos rfl] at h22
    rw [lastsP6, if_pos hz] at h17
    dsimp only at h17
    have hstA := fun h hh => stocksL_at (s := s) T U (h := h) hh
    have hstL := stocksL_len s T U
    have cm1 : cntN s T (kU s.use.hi) s.hours ≤ cntN s T (uAt U) s.hours := cnt_mono fun j hj => (hua j hj).2.2
    have cm2 : cntN s T (uAt U) s.hours ≤ cntN s T (kU s.use.lo) s.hours := cnt_mono fun j hj => (hua j hj).2.1
    have hsum : ∀ k, stockAt s T (uAt U) k = s.stock + cumB s T k - sumU (uAt U) k := stock_cum s T (uAt U)
    have htot : cumB s T s.hours = total s T := cum_total fun t ht => by
      obtain ⟨h, c, e, h1, _⟩ := hT.at' t ht
      exact ⟨h, c, e, h1⟩
    have hll : s.loads.length = s.carr.length := h6.len
    obtain ⟨st, hst⟩ : ∃ st, st = stocksL s T U := ⟨_, rfl⟩
    rw [← hst] at h14 hstL
    simp only [← hst] at hstA
    obtain ⟨na, hna⟩ : ∃ na, na = cntN s T (kU s.use.hi) s.hours := ⟨_, rfl⟩
    obtain ⟨nb, hnb⟩ : ∃ nb, nb = cntN s T (kU s.use.lo) s.hours := ⟨_, rfl⟩
    obtain ⟨fb, hfb⟩ : ∃ fb, fb = fitsA s T s.use.lo s.hours := ⟨_, rfl⟩
    rw [← hna] at h17 cm1
    rw [← hnb] at h17 cm2
    rw [← hfb] at h17
    have q0 : ((st.length : Int) != (U.length : Int)) = false := by rw [hstL, hul]; simp
    obtain ⟨L, hL⟩ : ∃ L, L = s.loads := ⟨_, rfl⟩
    rw [← hL] at h22 hll
    simp only [← hL] at hrow
    have q1 : ((L.length : Int) != (s.carr.length : Int)) = false := by rw [hll]; simp
    repeat (first | refine walkL_true rfl ?_ | refine walkL_false rfl ?_ | refine walkL_seq ?_ | refine walkL_skip ?_ | refine walkL_block ?_ | (refine walkL_region fun K hK => ?_; simp (maxSteps := 4000000) only [go_sem, intRows_len, listRows_len, carrRows_len, q0, q1]; (repeat (first | (refine ⟨_, .lent (hf := h14) (hd := rfl) (hr := rfl), ?_⟩; simp (maxSteps := 4000000) only [go_sem, intRows_len, listRows_len, carrRows_len, q0, q1]) | (refine ⟨_, .lent (hf := h22) (hd := rfl) (hr := rfl), ?_⟩; simp (maxSteps := 4000000) only [go_sem, intRows_len, listRows_len, carrRows_len, q0, q1]) | (refine ⟨_, .lent (hf := h17) (hd := rfl) (hr := rfl), ?_⟩; simp (maxSteps := 4000000) only [go_sem, intRows_len, listRows_len, carrRows_len, q0, q1]) | (refine ⟨_, .given (hf := h14) (hd := rfl) (ha := rfl), ?_⟩; simp (maxSteps := 4000000) only [go_sem, intRows_len, listRows_len, carrRows_len, q0, q1]) | (refine ⟨_, .given (hf := h22) (hd := rfl) (ha := rfl), ?_⟩; simp (maxSteps := 4000000) only [go_sem, intRows_len, listRows_len, carrRows_len, q0, q1]) | (refine ⟨_, .given (hf := h17) (hd := rfl) (ha := rfl), ?_⟩; simp (maxSteps := 4000000) only [go_sem, intRows_len, listRows_len, carrRows_len, q0, q1]))); refine hK _ ?_; clear hK K) | refine walkL_nil ?_ | refine walkL_ret ?_ | refine walkL_exit ?_ | refine blockA_here ?_ | refine blockA_other rfl ?_ | refine blockA_ret ?_ | refine blockA_normal ?_ | refine thenA_ret ?_ | refine thenA_exit ?_ | refine thenA_normal ?_)
    have ht0 : s.stock = s.stock + total s (T.take 0) := by simp [total]
    refine walkL_loopS (fun (i : Nat) => [(16, .d (.i (i : Int))), (15, .d (.i (s.stock + total s (T.take i))))]) (fun _ => []) (fun i => i ≤ T.length) (fun i => T.length - i) 0 ?_ (Nat.zero_le _) ?_
    · rw [← ht0]
      simp (maxSteps := 4000000) only [go_sem]
      refine weak_of [] ?_ ?_ rfl rfl <;> simp [lessT, lessM, lessB, AV.less]
    · intro i hi
      simp (maxSteps := 4000000) only [go_sem]
      repeat (first | refine walkL_seq ?_ | refine walkL_skip ?_ | refine walkL_block ?_ | (refine walkL_region fun K hK => ?_; simp (maxSteps := 4000000) only [go_sem, tripRows_len]; refine hK _ ?_; clear hK K) | refine walkL_nil ?_ | refine walkL_ret ?_ | refine walkL_exit ?_ | refine blockA_here ?_ | refine blockA_other rfl ?_ | refine blockA_ret ?_ | refine blockA_normal ?_ | refine thenA_ret ?_ | refine thenA_exit ?_ | refine thenA_normal ?_)
      refine walkL_cond rfl (fun hb => ?_) (fun hb => ?_)
      · have hlt : i < T.length := by simpa using hb
        have hw : IntKind.i64.wrap ((i : Int) + 1) = ((i + 1 : Nat) : Int) := by rw [wr_small (by omega)]; simp
        obtain ⟨t, ht⟩ : ∃ t, T[i]? = some t := ⟨_, List.getElem?_eq_getElem hlt⟩
        have g1 := tripRows_at ht
        obtain ⟨h, c, rfl, hh, hc⟩ := hT.at' t (List.mem_of_getElem? ht)
        dsimp only at g1
        obtain ⟨r, _, gl, hrl, gr⟩ := hrow c h hc hh
        have hni : ¬ ((i : Int) < 0) := by omega
        have hnh : ¬ ((h : Int) < 0) := by omega
        have hncc : ¬ ((c : Int) < 0) := by omega
        have q2 : ((r.length : Int) != (U.length : Int)) = false := by rw [hrl, hul]; simp
        have tr := total_range h0 (T.take i)
        have lr := ldAt_range h0 c h
        have htl : (T.take i).length ≤ 60 := by simp; omega
        have hn : total s (T.take (i + 1)) = total s (T.take i) + ldAt s.loads c h := by
          rw [List.take_add_one, ht, total_app, Option.toList_some, total, total, Int.toNat_natCast, Int.toNat_natCast]
          omega
        obtain ⟨_, _, _, _⟩ := store_good h0
        have hws : IntKind.i64.wrap (s.stock + total s (T.take i) + ldAt s.loads c h) = s.stock + total s (T.take (i + 1)) := by
          rw [wr_small (by omega), hn]
          omega
        rw [← hL] at hws
        obtain ⟨v, hv⟩ : ∃ v, v = ldAt L c h := ⟨_, rfl⟩
        rw [← hv] at gr hws
        repeat (first | refine walkL_true rfl ?_ | refine walkL_false rfl ?_ | refine walkL_seq ?_ | refine walkL_skip ?_ | refine walkL_block ?_ | (refine walkL_region fun K hK => ?_; simp (maxSteps := 4000000) only [go_sem, g1, gl, hni, hncc, q2, intRows_len]; refine hK _ ?_; clear hK K) | refine walkL_nil ?_ | refine walkL_ret ?_ | refine walkL_exit ?_ | refine blockA_here ?_ | refine blockA_other rfl ?_ | refine blockA_ret ?_ | refine blockA_normal ?_ | refine thenA_ret ?_ | refine thenA_exit ?_ | refine thenA_normal ?_)
        refine walkL_drawn (by kernel_rfl) (by kernel_rfl) fun K hK => ?_
        simp (maxSteps := 4000000) only [go_sem, g1, gl, gr, hni, hnh, hncc, hws]
        refine ⟨by kernel_rfl, hK _ ?_⟩
        clear hK K
        repeat (first | refine walkL_seq ?_ | refine walkL_skip ?_ | refine walkL_block ?_ | (refine walkL_region fun K hK => ?_; simp (maxSteps := 4000000) only [go_sem, hw]; refine hK _ ?_; clear hK K) | refine walkL_nil ?_ | refine walkL_ret ?_ | refine walkL_exit ?_ | refine blockA_here ?_ | refine blockA_other rfl ?_ | refine blockA_ret ?_ | refine blockA_normal ?_ | refine thenA_ret ?_ | refine thenA_exit ?_ | refine thenA_normal ?_)
        refine ⟨rfl, i + 1, ?_, hlt, by omega⟩
        refine weak_of [] ?_ ?_ rfl rfl <;> simp [lessT, lessM, lessB, AV.less]
      · have he : i = T.length := by (have : ¬ i < T.length := by simpa using hb); omega
        subst he
        rw [List.take_length]
        have ht1 : s.stock + total s T = s.stock + total s T - sumU (uAt U) 0 := by simp [sumU]
        repeat (first | refine walkL_seq ?_ | refine walkL_skip ?_ | refine walkL_block ?_ | (refine walkL_region fun K hK => ?_; simp (maxSteps := 4000000) only [go_sem]; refine hK _ ?_; clear hK K) | refine walkL_nil ?_ | refine walkL_ret ?_ | refine walkL_exit ?_ | refine blockA_here ?_ | refine blockA_other rfl ?_ | refine blockA_ret ?_ | refine blockA_normal ?_ | refine thenA_ret ?_ | refine thenA_exit ?_ | refine thenA_normal ?_)
        refine walkL_loopS (fun (k : Nat) => [(19, .d (.i (k : Int))), (15, .d (.i (s.stock + total s T - sumU (uAt U) k))), (18, .d (.bool (shortB s T (uAt U) k))), (17, .d (.i (cntN s T (uAt U) k : Int)))]) (fun _ => []) (fun k => k ≤ s.hours) (fun k => s.hours - k) 0 ?_ (Nat.zero_le _) ?_
        · rw [← ht1]
          simp (maxSteps := 4000000) only [go_sem, shortB, cntN]
          refine weak_of [] ?_ ?_ rfl rfl <;> simp [lessT, lessM, lessB, AV.less]
          all_goals first | done | rfl
        · intro k hk
          have hcl := cnt_le s T (uAt U) k
          simp (maxSteps := 4000000) only [go_sem]
          repeat (first | refine walkL_seq ?_ | refine walkL_skip ?_ | refine walkL_block ?_ | (refine walkL_region fun K hK => ?_; simp (maxSteps := 4000000) only [go_sem, intRows_len, hul]; refine hK _ ?_; clear hK K) | refine walkL_nil ?_ | refine walkL_ret ?_ | refine walkL_exit ?_ | refine blockA_here ?_ | refine blockA_other rfl ?_ | refine blockA_ret ?_ | refine blockA_normal ?_ | refine thenA_ret ?_ | refine thenA_exit ?_ | refine thenA_normal ?_)
          refine walkL_cond rfl (fun hb => ?_) (fun hb => ?_)
          · have hlt : k < s.hours := by simpa using hb
            have hw : IntKind.i64.wrap ((k : Int) + 1) = ((k + 1 : Nat) : Int) := by rw [wr_small (by omega)]; simp
            obtain ⟨gU, u1, u2⟩ := hua k hlt
            have gS := hstA k hlt
            have hnk : ¬ ((k : Int) < 0) := by omega
            have sr := hsr k (by omega)
            have sm := hsum k
            have sr1 := hsr (k + 1) (by omega)
            have cr := cum_range h0 hT k
            have tr := total_range h0 T
            have htl := hT.len
            obtain ⟨_, _, _, _⟩ := store_good h0
            have e1 : IntKind.i64.wrap (s.stock + total s T - sumU (uAt U) k - uAt U k) = s.stock + total s T - sumU (uAt U) (k + 1) := by
              have : sumU (uAt U) (k + 1) = sumU (uAt U) k + uAt U k := rfl
              rw [wr_small (by omega)]
              omega
            have e3 : IntKind.i64.wrap ((cntN s T (uAt U) k : Int) + 1) = ((cntN s T (uAt U) k + 1 : Nat) : Int) := by rw [wr_small (by omega)]; simp
            obtain ⟨d2, hd2⟩ : ∃ d2, decide (stockAt s T (uAt U) (k + 1) < s.reserve) = d2 := ⟨_, rfl⟩
            have n2 : shortB s T (uAt U) (k + 1) = (shortB s T (uAt U) k || d2) := by rw [← hd2]; rfl
            have n3 : cntN s T (uAt U) (k + 1) = if shortB s T (uAt U) (k + 1) then cntN s T (uAt U) k else cntN s T (uAt U) k + 1 := rfl
            obtain ⟨cn, hcn⟩ : ∃ cn, cn = cntN s T (uAt U) k := ⟨_, rfl⟩
            rw [← hcn] at e3 n3
            cases q2 : shortB s T (uAt U) k
            all_goals
              rw [q2] at n2
              cases d2
              all_goals
                simp only [Bool.false_or, Bool.true_or] at n2
                rw [n2] at n3
                simp only [if_true, Bool.false_eq_true, if_false] at n3
                simp (maxSteps := 4000000) only [go_sem, ← hcn]
                repeat (first | refine walkL_seq ?_ | refine walkL_skip ?_ | refine walkL_block ?_ | (refine walkL_region fun K hK => ?_; simp (maxSteps := 4000000) only [go_sem, gU, hnk, e1]; refine hK _ ?_; clear hK K) | refine walkL_nil ?_ | refine walkL_ret ?_ | refine walkL_exit ?_ | refine blockA_here ?_ | refine blockA_other rfl ?_ | refine blockA_ret ?_ | refine blockA_normal ?_ | refine thenA_ret ?_ | refine thenA_exit ?_ | refine thenA_normal ?_)
                refine walkL_drawn (by kernel_rfl) (by kernel_rfl) fun K hK => ?_
                simp (maxSteps := 4000000) only [go_sem, gS, hnk, hd2]
                refine ⟨by kernel_rfl, hK _ ?_⟩
                clear hK K
                repeat (first | refine walkL_true rfl ?_ | refine walkL_false rfl ?_ | refine walkL_seq ?_ | refine walkL_skip ?_ | refine walkL_block ?_ | (refine walkL_region fun K hK => ?_; simp (maxSteps := 4000000) only [go_sem, e3, hw]; refine hK _ ?_; clear hK K) | refine walkL_nil ?_ | refine walkL_ret ?_ | refine walkL_exit ?_ | refine blockA_here ?_ | refine blockA_other rfl ?_ | refine blockA_ret ?_ | refine blockA_normal ?_ | refine thenA_ret ?_ | refine thenA_exit ?_ | refine thenA_normal ?_)
                refine ⟨rfl, k + 1, ?_, hlt, by omega⟩
                refine weak_of [] ?_ ?_ rfl rfl <;> simp [lessT, lessM, lessB, AV.less]
                all_goals first | done | (simp [n2, n3, hul]; done) | trace_state
          · have hke : k = s.hours := by (have : ¬ k < s.hours := by simpa using hb); omega
            subst hke
            obtain ⟨m, hm⟩ : ∃ m, s.hours = m + 1 := ⟨s.hours - 1, by omega⟩
            have gS := hstA m (by omega)
            rw [← hm] at gS
            have hss := hsum s.hours
            rw [htot] at hss
            have w1 : IntKind.i64.wrap ((st.length : Int) - 1) = (m : Int) := by rw [hstL, wr_small (by omega)]; omega
            have hnm : ¬ ((m : Int) < 0) := by omega
            have d1 : (stockAt s T (uAt U) s.hours == s.stock + total s T - sumU (uAt U) s.hours) = true := by rw [hss]; simp
            have d2 : decide ((na : Int) ≤ (cntN s T (uAt U) s.hours : Int)) = true := decide_eq_true (by omega)
            have d3 : decide ((cntN s T (uAt U) s.hours : Int) ≤ (nb : Int)) = true := decide_eq_true (by omega)
            repeat (first | refine walkL_seq ?_ | refine walkL_skip ?_ | refine walkL_block ?_ | (refine walkL_region fun K hK => ?_; simp (maxSteps := 4000000) only [go_sem, intRows_len, w1, hnm, gS, d1, d2, d3]; (repeat (first | (refine ⟨_, .lent (hf := h12) (hd := rfl) (hr := rfl), ?_⟩; simp (maxSteps := 4000000) only [go_sem, intRows_len, w1, hnm, gS, d1, d2, d3]) | (refine ⟨_, .given (hf := h12) (hd := rfl) (ha := rfl), ?_⟩; simp (maxSteps := 4000000) only [go_sem, intRows_len, w1, hnm, gS, d1, d2, d3]))); refine hK _ ?_; clear hK K) | refine walkL_nil ?_ | refine walkL_ret ?_ | refine walkL_exit ?_ | refine blockA_here ?_ | refine blockA_other rfl ?_ | refine blockA_ret ?_ | refine blockA_normal ?_ | refine thenA_ret ?_ | refine thenA_exit ?_ | refine thenA_normal ?_)
            simp (maxSteps := 4000000) only [go_sem]
end Go.Ab
