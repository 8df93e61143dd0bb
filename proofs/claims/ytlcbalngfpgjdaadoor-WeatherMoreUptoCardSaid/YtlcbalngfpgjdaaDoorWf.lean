/- A walk engine over abstract states, and the contracts of the functions that the statement reaches: part 6. -/
import Derived.Test.YtlcbalngfpgjdaaDoorWe
set_option linter.unusedVariables false
set_option linter.unusedSimpArgs false
set_option linter.unnecessarySimpa false
namespace Go.Ab
open Go.RowKit Go.Proofs
set_option maxHeartbeats 16000000
set_option maxRecDepth 20000
attribute [local irreducible] WalkL Walk

def badMore (F : List (List Hour)) (x : RealX) (y : EaseX) : Bool :=
  far5 F x.seen || ((seenF F x.seen != 0) || (!limB x.lim || (decide (x.len < 1) || (decide (x.len > 48) || (decide (y.wind < 0) || (decide (y.rain < 0) || (decide (y.temp < 0) || (decide (y.wind > 1000) || (decide (y.rain > 1000) || decide (y.temp > 1000))))))))))

theorem sightRows_push (l : List Sight) (x : Sight) : sightRows (l ++ [x]) = sightRows l ++ [x.row] := by simp [sightRows]

theorem f3 (F : List (List Hour)) (x : RealX) (y : EaseX) (hs : ForeSmall F) (hsl : x.seen.length < 2 ^ 30) (hkl : x.skies.length < 2 ^ 30) : Fn Tryd.prog 3 [.agg [.sl (scenRows F)], .agg x.cells, .agg y.cells] (.bool true) := by
  have h10 := f10
  have h9 := f9 x.lim
  rw [Limits.row] at h9
  have h7 := f7 F x.seen hs
  have h8 := f8 F x.seen hs hsl
  refine fn_walk 276 Tryd.call3 Tryd.func3 rfl (by decide) fun J => ?_
  simp (maxSteps := 4000000) only [go_sem, St.start, Tryd.ntmps3, Tryd.results3, RealX.cells, EaseX.cells]
  repeat (first | refine walkL_seq ?_ | refine walkL_skip ?_ | refine walkL_block ?_ | (refine walkL_region fun K hK => ?_; simp (maxSteps := 4000000) only [go_sem]; refine hK _ ?_; clear hK K) | refine walkL_nil ?_ | refine walkL_ret ?_ | refine walkL_exit ?_ | refine blockA_here ?_ | refine blockA_other rfl ?_ | refine blockA_ret ?_ | refine blockA_normal ?_ | refine thenA_ret ?_ | refine thenA_exit ?_ | refine thenA_normal ?_)
  refine walkL_meetS [(87, .d (.bool (badMore F x y)))] [] ?_ ?_
  · refine walkL_region fun K hK => ?_
    simp (maxSteps := 4000000) only [go_sem]
    refine ⟨_, .lent (hf := h7) (hd := rfl) (hr := rfl), ?_⟩
    simp (maxSteps := 4000000) only [go_sem]
    by_cases ho0 : (far5 F x.seen) = true
    · simp (maxSteps := 4000000) only [go_sem, ho0]
      refine hK _ ?_
      clear hK K
      refine walkL_nil ?_
      refine thenA_normal ?_
      refine ⟨rfl, ?_⟩
      rw [show (badMore F x y) = (true) from by simp [badMore, ho0]]
      simp (maxSteps := 4000000) only [go_sem]
      refine weak_of [] ?_ ?_ rfl rfl <;> simp [lessT, lessM, lessB, AV.less]
    · simp (maxSteps := 4000000) only [go_sem, ho0]
      refine ⟨_, .lent (hf := h8) (hd := rfl) (hr := rfl), ?_⟩
      simp (maxSteps := 4000000) only [go_sem, ho0]
      by_cases ho1 : (seenF F x.seen != 0) = true
      · simp (maxSteps := 4000000) only [go_sem, ho0, ho1]
        refine hK _ ?_
        clear hK K
        refine walkL_nil ?_
        refine thenA_normal ?_
        refine ⟨rfl, ?_⟩
        rw [show (badMore F x y) = (true) from by simp [badMore, ho0, ho1]]
        simp (maxSteps := 4000000) only [go_sem]
        refine weak_of [] ?_ ?_ rfl rfl <;> simp [lessT, lessM, lessB, AV.less]
      · simp (maxSteps := 4000000) only [go_sem, ho0, ho1]
        refine ⟨_, .lent (hf := h9) (hd := rfl) (hr := rfl), ?_⟩
        simp (maxSteps := 4000000) only [go_sem, ho0, ho1]
        by_cases ho2 : (!limB x.lim) = true
        · simp (maxSteps := 4000000) only [go_sem, ho0, ho1, ho2]
          refine hK _ ?_
          clear hK K
          refine walkL_nil ?_
          refine thenA_normal ?_
          refine ⟨rfl, ?_⟩
          rw [show (badMore F x y) = (true) from by simp [badMore, ho0, ho1, ho2]]
          simp (maxSteps := 4000000) only [go_sem]
          refine weak_of [] ?_ ?_ rfl rfl <;> simp [lessT, lessM, lessB, AV.less]
        · simp (maxSteps := 4000000) only [go_sem, ho0, ho1, ho2]
          by_cases ho3 : (decide (x.len < 1)) = true
          · simp (maxSteps := 4000000) only [go_sem, ho0, ho1, ho2, ho3]
            refine hK _ ?_
            clear hK K
            refine walkL_nil ?_
            refine thenA_normal ?_
            refine ⟨rfl, ?_⟩
            rw [show (badMore F x y) = (true) from by simp [badMore, ho0, ho1, ho2, ho3]]
            simp (maxSteps := 4000000) only [go_sem]
            refine weak_of [] ?_ ?_ rfl rfl <;> simp [lessT, lessM, lessB, AV.less]
          · simp (maxSteps := 4000000) only [go_sem, ho0, ho1, ho2, ho3]
            by_cases ho4 : (decide (x.len > 48)) = true
            · simp (maxSteps := 4000000) only [go_sem, ho0, ho1, ho2, ho3, ho4]
              refine hK _ ?_
              clear hK K
              refine walkL_nil ?_
              refine thenA_normal ?_
              refine ⟨rfl, ?_⟩
              rw [show (badMore F x y) = (true) from by simp [badMore, ho0, ho1, ho2, ho3, ho4]]
              simp (maxSteps := 4000000) only [go_sem]
              refine weak_of [] ?_ ?_ rfl rfl <;> simp [lessT, lessM, lessB, AV.less]
            · simp (maxSteps := 4000000) only [go_sem, ho0, ho1, ho2, ho3, ho4]
              by_cases ho5 : (decide (y.wind < 0)) = true
              · simp (maxSteps := 4000000) only [go_sem, ho0, ho1, ho2, ho3, ho4, ho5]
                refine hK _ ?_
                clear hK K
                refine walkL_nil ?_
                refine thenA_normal ?_
                refine ⟨rfl, ?_⟩
                rw [show (badMore F x y) = (true) from by simp [badMore, ho0, ho1, ho2, ho3, ho4, ho5]]
                simp (maxSteps := 4000000) only [go_sem]
                refine weak_of [] ?_ ?_ rfl rfl <;> simp [lessT, lessM, lessB, AV.less]
              · simp (maxSteps := 4000000) only [go_sem, ho0, ho1, ho2, ho3, ho4, ho5]
                by_cases ho6 : (decide (y.rain < 0)) = true
                · simp (maxSteps := 4000000) only [go_sem, ho0, ho1, ho2, ho3, ho4, ho5, ho6]
                  refine hK _ ?_
                  clear hK K
                  refine walkL_nil ?_
                  refine thenA_normal ?_
                  refine ⟨rfl, ?_⟩
                  rw [show (badMore F x y) = (true) from by simp [badMore, ho0, ho1, ho2, ho3, ho4, ho5, ho6]]
                  simp (maxSteps := 4000000) only [go_sem]
                  refine weak_of [] ?_ ?_ rfl rfl <;> simp [lessT, lessM, lessB, AV.less]
                · simp (maxSteps := 4000000) only [go_sem, ho0, ho1, ho2, ho3, ho4, ho5, ho6]
                  by_cases ho7 : (decide (y.temp < 0)) = true
                  · simp (maxSteps := 4000000) only [go_sem, ho0, ho1, ho2, ho3, ho4, ho5, ho6, ho7]
                    refine hK _ ?_
                    clear hK K
                    refine walkL_nil ?_
                    refine thenA_normal ?_
                    refine ⟨rfl, ?_⟩
                    rw [show (badMore F x y) = (true) from by simp [badMore, ho0, ho1, ho2, ho3, ho4, ho5, ho6, ho7]]
                    simp (maxSteps := 4000000) only [go_sem]
                    refine weak_of [] ?_ ?_ rfl rfl <;> simp [lessT, lessM, lessB, AV.less]
                  · simp (maxSteps := 4000000) only [go_sem, ho0, ho1, ho2, ho3, ho4, ho5, ho6, ho7]
                    by_cases ho8 : (decide (y.wind > 1000)) = true
                    · simp (maxSteps := 4000000) only [go_sem, ho0, ho1, ho2, ho3, ho4, ho5, ho6, ho7, ho8]
                      refine hK _ ?_
                      clear hK K
                      refine walkL_nil ?_
                      refine thenA_normal ?_
                      refine ⟨rfl, ?_⟩
                      rw [show (badMore F x y) = (true) from by simp [badMore, ho0, ho1, ho2, ho3, ho4, ho5, ho6, ho7, ho8]]
                      simp (maxSteps := 4000000) only [go_sem]
                      refine weak_of [] ?_ ?_ rfl rfl <;> simp [lessT, lessM, lessB, AV.less]
                    · simp (maxSteps := 4000000) only [go_sem, ho0, ho1, ho2, ho3, ho4, ho5, ho6, ho7, ho8]
                      by_cases ho9 : (decide (y.rain > 1000)) = true
                      · simp (maxSteps := 4000000) only [go_sem, ho0, ho1, ho2, ho3, ho4, ho5, ho6, ho7, ho8, ho9]
                        refine hK _ ?_
                        clear hK K
                        refine walkL_nil ?_
                        refine thenA_normal ?_
                        refine ⟨rfl, ?_⟩
                        rw [show (badMore F x y) = (true) from by simp [badMore, ho0, ho1, ho2, ho3, ho4, ho5, ho6, ho7, ho8, ho9]]
                        simp (maxSteps := 4000000) only [go_sem]
                        refine weak_of [] ?_ ?_ rfl rfl <;> simp [lessT, lessM, lessB, AV.less]
                      · simp (maxSteps := 4000000) only [go_sem, ho0, ho1, ho2, ho3, ho4, ho5, ho6, ho7, ho8, ho9]
                        refine hK _ ?_
                        clear hK K
                        refine walkL_nil ?_
                        refine thenA_normal ?_
                        refine ⟨rfl, ?_⟩
                        rw [show (badMore F x y) = (decide (y.temp > 1000)) from by simp [badMore, ho0, ho1, ho2, ho3, ho4, ho5, ho6, ho7, ho8, ho9]]
                        simp (maxSteps := 4000000) only [go_sem]
                        refine weak_of [] ?_ ?_ rfl rfl <;> simp [lessT, lessM, lessB, AV.less]
  cases hbad : badMore F x y
  · simp (maxSteps := 4000000) only [go_sem]
    obtain ⟨b1, b2, b3, b4, b5, b6, b7, b8, b9, b10, b11⟩ : far5 F x.seen = false ∧ seenF F x.seen = 0 ∧ limB x.lim = true ∧ 1 ≤ x.len ∧ x.len ≤ 48 ∧ 0 ≤ y.wind ∧ 0 ≤ y.rain ∧ 0 ≤ y.temp ∧ y.wind ≤ 1000 ∧ y.rain ≤ 1000 ∧ y.temp ≤ 1000 := by
      unfold badMore at hbad
      simp only [Bool.or_eq_false_iff, decide_eq_false_iff_not, Bool.not_eq_false', bne_eq_false_iff_eq] at hbad
      obtain ⟨b1, b2, b3, b4, b5, b6, b7, b8, b9, b10, b11⟩ := hbad
      exact ⟨b1, b2, b3, by omega, by omega, by omega, by omega, by omega, by omega, by omega, by omega⟩
    obtain ⟨hg, hsi, _⟩ := (seen_vals F x.seen true).2 b2
    obtain ⟨n, hn⟩ : ∃ n, n = x.len := ⟨_, rfl⟩
    have hnr : 1 ≤ n ∧ n ≤ 48 := by omega
    obtain ⟨W, hW⟩ : ∃ W, W = widerL x.lim y.wind y.rain y.temp := ⟨_, rfl⟩
    have hWl : limB W = true := hW ▸ wider_lim b3 b6 b7 b8
    have hF := hg.scen
    have hH := hg.hours
    obtain ⟨H, hHe⟩ : ∃ H, H = (hd0 F).length := ⟨_, rfl⟩
    have h11 := f11 F (hd0 F) (headD_get (by omega))
    have h12 := f12 F x.seen hs hsl
    have h13 := f13 F x.seen x.lim hs hsl
    have h14 := f14 F x.seen x.lim x.len hs hsl
    have h15 := f15 x.lim y b3 ⟨b6, b9⟩ ⟨b7, b10⟩ ⟨b8, b11⟩
    have h13w := f13 F x.seen W hs hsl
    have h14w := f14 F x.seen W x.len hs hsl
    rw [← hW] at h15
    rw [Limits.row] at h13 h14 h15 h13w h14w
    rw [Limits.row, EaseX.cells] at h15
    rw [← hHe] at h11
    obtain ⟨e, he⟩ : ∃ e, e = lookF F x.seen 0 true := ⟨_, rfl⟩
    have ls1 : x.seen.length ≤ 549755813888 := by omega
    have ls2 : x.seen.length + 1 ≤ 549755813888 := by omega
    have ls3 : 0 + x.seen.length ≤ 549755813888 := by omega
    obtain ⟨M, hM⟩ : ∃ M, M = x.seen ++ [y.sight] := ⟨_, rfl⟩
    have hMl : M.length < 2 ^ 30 := by rw [hM]; have := (sights_spec hsi).2.2; simp; omega
    have hpush := sightRows_push x.seen y.sight
    rw [← hM, Sight.row] at hpush
    have m8 := f8 F M hs hMl
    have m12 := f12 F M hs hMl
    obtain ⟨em, hem⟩ : ∃ em, em = lookF F M 0 true := ⟨_, rfl⟩
    rw [← he] at h12
    rw [← hem] at m12
    by_cases he0 : e = 0
    · rw [he0] at he
      have hlk := he.symm
      obtain ⟨_, _, hne, _, _⟩ := look_all hlk
      have e1 : ∀ (l : Limits) (S : List (List Hour)), gapS l (n : Int) S = gapS l n S := fun _ _ => rfl
      obtain ⟨N, hN⟩ : ∃ N : Nat, n = N := ⟨n.toNat, by omega⟩
      have hN1 : 1 ≤ N := by omega
      obtain ⟨S, hS⟩ : ∃ S, S = scensOf (possL F x.seen) := ⟨_, rfl⟩
      have hSH : ∀ s ∈ S, s.length = H := by rw [hS, hHe]; exact scens_all hg
      have k13 := keeps_ok hlk b3
      have k13w := keeps_ok hlk hWl
      have k14 := gapF_ok (n := x.len) hlk b3 ⟨b4, b5⟩
      have k14w := gapF_ok (n := x.len) hlk hWl ⟨b4, b5⟩
      have wide1 : ∀ s' ∈ S, ∃ s ∈ S, s'.length = s.length ∧ ∀ j < s.length, alwaysB x.lim (hourAt s (j : Int)) = true → alwaysB W (hourAt s' (j : Int)) = true :=
        fun s' hs' => ⟨s', hs', rfl, fun j _ ha => by rw [hW]; exact wider_always b3 b6 b7 b8 ha⟩
      have wd1 := sure_within hSH wide1
      have gp1 := gapS_mono hN1 wide1
      rw [← hS, ← hHe] at k13 k13w
      rw [← hS] at k14 k14w
      rw [← hn, hN] at k14 k14w
      rw [← hn, hN] at h14 h14w
      rw [k13] at h13
      rw [k13w] at h13w
      rw [k14] at h14
      rw [k14w] at h14w
      dsimp only at h13 h13w h14 h14w
      obtain ⟨A, hA⟩ : ∃ A, A = spansQ (fun i => S.all fun s => alwaysB x.lim (hourAt s (i : Int))) H := ⟨_, rfl⟩
      obtain ⟨A2, hA2⟩ : ∃ A2, A2 = spansQ (fun i => S.all fun s => alwaysB W (hourAt s (i : Int))) H := ⟨_, rfl⟩
      obtain ⟨B, hB⟩ : ∃ B, B = spansQ (fun i => S.any fun s => everB x.lim (hourAt s (i : Int))) H := ⟨_, rfl⟩
      obtain ⟨B2, hB2⟩ : ∃ B2, B2 = spansQ (fun i => S.any fun s => everB W (hourAt s (i : Int))) H := ⟨_, rfl⟩
      obtain ⟨G, hG⟩ : ∃ G, G = gapS x.lim N S := ⟨_, rfl⟩
      obtain ⟨G2, hG2⟩ : ∃ G2, G2 = gapS W N S := ⟨_, rfl⟩
      have lA : A.length < 2 ^ 30 := by have := spansQ_len (fun i => S.all fun s => alwaysB x.lim (hourAt s (i : Int))) H; rw [hA]; omega
      have lA2 : A2.length < 2 ^ 30 := by have := spansQ_len (fun i => S.all fun s => alwaysB W (hourAt s (i : Int))) H; rw [hA2]; omega
      rw [← hA, ← hB] at h13
      rw [← hA2, ← hB2] at h13w
      rw [← hA, ← hA2] at wd1
      rw [← hG] at h14
      rw [← hG2] at h14w
      rw [← hG, ← hG2] at gp1
      have h16 := f16 A A2 H lA lA2 (by omega)
      rw [wd1] at h16
      have dg1 : decide (G2 > G) = false := decide_eq_false (by omega)
      obtain ⟨P, hP⟩ : ∃ P, P = numsOf (possL F x.seen) := ⟨_, rfl⟩
      have hPl : P.length < 2 ^ 30 := by
        have := possFrom_len x.seen F 0
        rw [hP, nums_len]
        unfold possL
        omega
      rw [he0] at h12
      simp only [if_true] at h12
      rw [← hP] at h12
      have hNx : x.len = (N : Int) := by omega
      repeat (first | refine walkL_true rfl ?_ | refine walkL_false rfl ?_ | refine walkL_seq ?_ | refine walkL_skip ?_ | refine walkL_block ?_ | (refine walkL_region fun K hK => ?_; simp (maxSteps := 4000000) only [go_sem, hNx]; (repeat (first | (refine ⟨_, .lent (hf := h11) (hd := rfl) (hr := rfl), ?_⟩; simp (maxSteps := 4000000) only [go_sem, hNx]) | (refine ⟨_, .lent (hf := h12) (hd := rfl) (hr := rfl), ?_⟩; simp (maxSteps := 4000000) only [go_sem, hNx]) | (refine ⟨_, .lent (hf := h13) (hd := rfl) (hr := rfl), ?_⟩; simp (maxSteps := 4000000) only [go_sem, hNx]) | (refine ⟨_, .lent (hf := h14) (hd := rfl) (hr := rfl), ?_⟩; simp (maxSteps := 4000000) only [go_sem, hNx]) | (refine ⟨_, .given (hf := h11) (hd := rfl) (ha := rfl), ?_⟩; simp (maxSteps := 4000000) only [go_sem, hNx]) | (refine ⟨_, .given (hf := h12) (hd := rfl) (ha := rfl), ?_⟩; simp (maxSteps := 4000000) only [go_sem, hNx]) | (refine ⟨_, .given (hf := h13) (hd := rfl) (ha := rfl), ?_⟩; simp (maxSteps := 4000000) only [go_sem, hNx]) | (refine ⟨_, .given (hf := h14) (hd := rfl) (ha := rfl), ?_⟩; simp (maxSteps := 4000000) only [go_sem, hNx]))); refine hK _ ?_; clear hK K) | refine walkL_nil ?_ | refine walkL_ret ?_ | refine walkL_exit ?_ | refine blockA_here ?_ | refine blockA_other rfl ?_ | refine blockA_ret ?_ | refine blockA_normal ?_ | refine thenA_ret ?_ | refine thenA_exit ?_ | refine thenA_normal ?_)
      refine walkL_drawn (by kernel_rfl) (by kernel_rfl) fun K hK => ?_
      simp (maxSteps := 4000000) only [go_sem, hNx]
      refine ⟨_, .fn (hf := h15) (hd := rfl) (hr := .inr rfl), ?_⟩
      simp (maxSteps := 4000000) only [go_sem]
      refine ⟨_, .fn (hf := h13w) (hd := rfl) (hr := .inr rfl), ?_⟩
      simp (maxSteps := 4000000) only [go_sem]
      refine ⟨by kernel_rfl, hK _ ?_⟩
      clear hK K
      repeat (first | refine walkL_true rfl ?_ | refine walkL_false rfl ?_ | refine walkL_seq ?_ | refine walkL_skip ?_ | refine walkL_block ?_ | (refine walkL_region fun K hK => ?_; simp (maxSteps := 4000000) only [go_sem]; refine hK _ ?_; clear hK K) | refine walkL_nil ?_ | refine walkL_ret ?_ | refine walkL_exit ?_ | refine blockA_here ?_ | refine blockA_other rfl ?_ | refine blockA_ret ?_ | refine blockA_normal ?_ | refine thenA_ret ?_ | refine thenA_exit ?_ | refine thenA_normal ?_)
      refine walkL_drawn (by kernel_rfl) (by kernel_rfl) fun K hK => ?_
      simp (maxSteps := 4000000) only [go_sem, hNx]
      refine ⟨_, .fn (hf := h15) (hd := rfl) (hr := .inr rfl), ?_⟩
      simp (maxSteps := 4000000) only [go_sem]
      refine ⟨_, .fn (hf := h14w) (hd := rfl) (hr := .inr rfl), ?_⟩
      simp (maxSteps := 4000000) only [go_sem]
      refine ⟨by kernel_rfl, hK _ ?_⟩
      clear hK K
      repeat (first | refine walkL_true rfl ?_ | refine walkL_false rfl ?_ | refine walkL_seq ?_ | refine walkL_skip ?_ | refine walkL_block ?_ | (refine walkL_region fun K hK => ?_; simp (maxSteps := 4000000) only [go_sem, dg1]; (repeat (first | (refine ⟨_, .lent (hf := h16) (hd := rfl) (hr := rfl), ?_⟩; simp (maxSteps := 4000000) only [go_sem, dg1]) | (refine ⟨_, .given (hf := h16) (hd := rfl) (ha := rfl), ?_⟩; simp (maxSteps := 4000000) only [go_sem, dg1]))); refine hK _ ?_; clear hK K) | refine walkL_nil ?_ | refine walkL_ret ?_ | refine walkL_exit ?_ | refine blockA_here ?_ | refine blockA_other rfl ?_ | refine blockA_ret ?_ | refine blockA_normal ?_ | refine thenA_ret ?_ | refine thenA_exit ?_ | refine thenA_normal ?_)
      refine walkL_drawnR [188] (by kernel_rfl) (by kernel_rfl) fun K hK => ?_
      simp (maxSteps := 4000000) only [go_sem, ls1, ls2, ls3, sightRows_len, List.nil_append, List.length_nil, ← hpush]
      refine ⟨by kernel_rfl, hK _ ?_⟩
      clear hK K
      by_cases hm0 : seenF F M = 0
      · obtain ⟨_, hsm, hlm⟩ := (seen_vals F M true).2 hm0
        rw [← hem] at hlm
        simp only [if_true] at hlm
        rw [hm0] at m8
        by_cases hem0 : em = 0
        · rw [hem0] at hem m12
          have hlkm := hem.symm
          have k13m := keeps_ok hlkm b3
          have k14m := gapF_ok (n := x.len) hlkm b3 ⟨b4, b5⟩
          have m13 := f13 F M x.lim hs hMl
          have m14 := f14 F M x.lim x.len hs hMl
          rw [Limits.row] at m13 m14
          obtain ⟨T, hT⟩ : ∃ T, T = scensOf (possL F M) := ⟨_, rfl⟩
          have more1 : ∀ s' ∈ T, ∃ s ∈ S, s'.length = s.length ∧ ∀ j < s.length, alwaysB x.lim (hourAt s (j : Int)) = true → alwaysB x.lim (hourAt s' (j : Int)) = true := fun s' hs' => by
            obtain ⟨s, h1, h2, h3⟩ := more_scen5 (x := y.sight) hg hsi (by rw [← hM]; exact hsm) s' (by rw [← hM, ← hT]; exact hs')
            exact ⟨s, by rw [hS]; exact h1, h2, fun j hj => h3 j hj x.lim⟩
          have wd2 := sure_within hSH more1
          have gp2 := gapS_mono hN1 more1
          rw [← hT, ← hHe] at k13m
          rw [← hT] at k14m
          rw [k13m] at m13
          rw [k14m] at m14
          dsimp only at m13 m14
          rw [hNx] at m14
          obtain ⟨A3, hA3⟩ : ∃ A3, A3 = spansQ (fun i => T.all fun s => alwaysB x.lim (hourAt s (i : Int))) H := ⟨_, rfl⟩
          obtain ⟨B3, hB3⟩ : ∃ B3, B3 = spansQ (fun i => T.any fun s => everB x.lim (hourAt s (i : Int))) H := ⟨_, rfl⟩
          obtain ⟨G3, hG3⟩ : ∃ G3, G3 = gapS x.lim N T := ⟨_, rfl⟩
          have lA3 : A3.length < 2 ^ 30 := by have := spansQ_len (fun i => T.all fun s => alwaysB x.lim (hourAt s (i : Int))) H; rw [hA3]; omega
          rw [← hA3, ← hB3] at m13
          rw [← hA, ← hA3] at wd2
          rw [← hG3] at m14
          rw [← hG, ← hG3] at gp2
          have m16 := f16 A A3 H lA lA3 (by omega)
          rw [wd2] at m16
          have dg2 : decide (G3 > G) = false := decide_eq_false (by omega)
          obtain ⟨R, hR⟩ : ∃ R, R = numsOf (possL F M) := ⟨_, rfl⟩
          have hRl : R.length < 2 ^ 30 := by
            have := possFrom_len M F 0
            rw [hR, nums_len]
            unfold possL
            omega
          have hRP : ∀ k ∈ R, k ∈ P := fun k hk => by
            rw [hP]
            exact nums_more (x := y.sight) k (by rw [← hM, ← hR]; exact hk)
          simp only [if_true] at m12
          rw [← hR] at m12
          clear hA hA2 hA3 hB hB2 hB3 hG hG2 hG3 hS hT hP hR more1 wide1 wd1 wd2
          repeat (first | refine walkL_true rfl ?_ | refine walkL_false rfl ?_ | refine walkL_seq ?_ | refine walkL_skip ?_ | refine walkL_block ?_ | (refine walkL_region fun K hK => ?_; simp (maxSteps := 4000000) only [go_sem, dg2, hNx]; (repeat (first | (refine ⟨_, .lent (hf := m8) (hd := rfl) (hr := rfl), ?_⟩; simp (maxSteps := 4000000) only [go_sem, dg2, hNx]) | (refine ⟨_, .lent (hf := m12) (hd := rfl) (hr := rfl), ?_⟩; simp (maxSteps := 4000000) only [go_sem, dg2, hNx]) | (refine ⟨_, .lent (hf := m13) (hd := rfl) (hr := rfl), ?_⟩; simp (maxSteps := 4000000) only [go_sem, dg2, hNx]) | (refine ⟨_, .lent (hf := m14) (hd := rfl) (hr := rfl), ?_⟩; simp (maxSteps := 4000000) only [go_sem, dg2, hNx]) | (refine ⟨_, .lent (hf := m16) (hd := rfl) (hr := rfl), ?_⟩; simp (maxSteps := 4000000) only [go_sem, dg2, hNx]) | (refine ⟨_, .lent (hf := h10) (hd := rfl) (hr := rfl), ?_⟩; simp (maxSteps := 4000000) only [go_sem, dg2, hNx]) | (refine ⟨_, .given (hf := m8) (hd := rfl) (ha := rfl), ?_⟩; simp (maxSteps := 4000000) only [go_sem, dg2, hNx]) | (refine ⟨_, .given (hf := m12) (hd := rfl) (ha := rfl), ?_⟩; simp (maxSteps := 4000000) only [go_sem, dg2, hNx]) | (refine ⟨_, .given (hf := m13) (hd := rfl) (ha := rfl), ?_⟩; simp (maxSteps := 4000000) only [go_sem, dg2, hNx]) | (refine ⟨_, .given (hf := m14) (hd := rfl) (ha := rfl), ?_⟩; simp (maxSteps := 4000000) only [go_sem, dg2, hNx]) | (refine ⟨_, .given (hf := m16) (hd := rfl) (ha := rfl), ?_⟩; simp (maxSteps := 4000000) only [go_sem, dg2, hNx]) | (refine ⟨_, .given (hf := h10) (hd := rfl) (ha := rfl), ?_⟩; simp (maxSteps := 4000000) only [go_sem, dg2, hNx]))); refine hK _ ?_; clear hK K) | refine walkL_nil ?_ | refine walkL_ret ?_ | refine walkL_exit ?_ | refine blockA_here ?_ | refine blockA_other rfl ?_ | refine blockA_ret ?_ | refine blockA_normal ?_ | refine thenA_ret ?_ | refine thenA_exit ?_ | refine thenA_normal ?_)
          refine walkL_loopS (fun (i : Nat) => [(28, .d (.i i)), (29, .undef), (30, .undef)]) (fun _ => []) (fun i => i ≤ R.length) (fun i => R.length - i) 0 ?_ (Nat.zero_le _) ?_
          · simp (maxSteps := 4000000) only [go_sem]
            refine weak_of [] ?_ ?_ rfl rfl <;> simp [lessT, lessM, lessB, AV.less]
            all_goals first | done | rfl
          · intro i hi
            simp (maxSteps := 4000000) only [go_sem]
            repeat (first | refine walkL_seq ?_ | refine walkL_skip ?_ | refine walkL_block ?_ | (refine walkL_region fun K hK => ?_; simp (maxSteps := 4000000) only [go_sem, intRows_len]; refine hK _ ?_; clear hK K) | refine walkL_nil ?_ | refine walkL_ret ?_ | refine walkL_exit ?_ | refine blockA_here ?_ | refine blockA_other rfl ?_ | refine blockA_ret ?_ | refine blockA_normal ?_ | refine thenA_ret ?_ | refine thenA_exit ?_ | refine thenA_normal ?_)
            refine walkL_cond rfl (fun hb => ?_) (fun hb => ?_)
            · have hlt : i < R.length := by simpa using hb
              have hw : IntKind.i64.wrap ((i : Int) + 1) = ((i + 1 : Nat) : Int) := by rw [wr_small (by omega)]; simp
              obtain ⟨r, hr⟩ : ∃ r, R[i]? = some r := ⟨_, List.getElem?_eq_getElem hlt⟩
              have g1 := intRows_at hr
              have hrP := hRP r (List.mem_of_getElem? hr)
              repeat (first | refine walkL_seq ?_ | refine walkL_skip ?_ | refine walkL_block ?_ | (refine walkL_region fun K hK => ?_; simp (maxSteps := 4000000) only [go_sem]; refine hK _ ?_; clear hK K) | refine walkL_nil ?_ | refine walkL_ret ?_ | refine walkL_exit ?_ | refine blockA_here ?_ | refine blockA_other rfl ?_ | refine blockA_ret ?_ | refine blockA_normal ?_ | refine thenA_ret ?_ | refine thenA_exit ?_ | refine thenA_normal ?_)
              refine walkL_loopS (fun (k : Nat) => [(30, .d (.i k)), (29, .d (.bool ((P.take k).any (· == r))))]) (fun _ => []) (fun k => k ≤ P.length) (fun k => P.length - k) 0 ?_ (Nat.zero_le _) ?_
              · simp (maxSteps := 4000000) only [go_sem]
                refine weak_of [] ?_ ?_ rfl rfl <;> simp [lessT, lessM, lessB, AV.less]
                all_goals first | done | rfl
              · intro k hk
                simp (maxSteps := 4000000) only [go_sem]
                repeat (first | refine walkL_seq ?_ | refine walkL_skip ?_ | refine walkL_block ?_ | (refine walkL_region fun K hK => ?_; simp (maxSteps := 4000000) only [go_sem, intRows_len]; refine hK _ ?_; clear hK K) | refine walkL_nil ?_ | refine walkL_ret ?_ | refine walkL_exit ?_ | refine blockA_here ?_ | refine blockA_other rfl ?_ | refine blockA_ret ?_ | refine blockA_normal ?_ | refine thenA_ret ?_ | refine thenA_exit ?_ | refine thenA_normal ?_)
                refine walkL_cond rfl (fun hb => ?_) (fun hb => ?_)
                · have hltk : k < P.length := by simpa using hb
                  have hwk : IntKind.i64.wrap ((k : Int) + 1) = ((k + 1 : Nat) : Int) := by rw [wr_small (by omega)]; simp
                  obtain ⟨q, hq⟩ : ∃ q, P[k]? = some q := ⟨_, List.getElem?_eq_getElem hltk⟩
                  have g2 := intRows_at hq
                  have hnx : (P.take (k + 1)).any (· == r) = ((P.take k).any (· == r) || (q == r)) := by
                    rw [List.take_add_one, hq]; simp
                  cases qf : (P.take k).any (· == r)
                  · rw [qf, Bool.false_or] at hnx
                    repeat (first | refine walkL_true rfl ?_ | refine walkL_false rfl ?_ | refine walkL_seq ?_ | refine walkL_skip ?_ | refine walkL_block ?_ | (refine walkL_region fun K hK => ?_; simp (maxSteps := 4000000) only [go_sem, g1, g2, hwk]; refine hK _ ?_; clear hK K) | (refine walkL_drawn (by kernel_rfl) (by kernel_rfl) fun K hK => ?_; simp (maxSteps := 4000000) only [go_sem, g1, g2, hwk]; refine ⟨by kernel_rfl, hK _ ?_⟩; clear hK K) | refine walkL_nil ?_ | refine walkL_ret ?_ | refine walkL_exit ?_ | refine blockA_here ?_ | refine blockA_other rfl ?_ | refine blockA_ret ?_ | refine blockA_normal ?_ | refine thenA_ret ?_ | refine thenA_exit ?_ | refine thenA_normal ?_)
                    refine ⟨rfl, k + 1, ?_, hltk, by omega⟩
                    rw [hnx]
                    refine weak_of [] ?_ ?_ rfl rfl <;> simp [lessT, lessM, lessB, AV.less]
                  · rw [qf, Bool.true_or] at hnx
                    repeat (first | refine walkL_true rfl ?_ | refine walkL_false rfl ?_ | refine walkL_seq ?_ | refine walkL_skip ?_ | refine walkL_block ?_ | (refine walkL_region fun K hK => ?_; simp (maxSteps := 4000000) only [go_sem, g1, g2, hwk]; refine hK _ ?_; clear hK K) | (refine walkL_drawn (by kernel_rfl) (by kernel_rfl) fun K hK => ?_; simp (maxSteps := 4000000) only [go_sem, g1, g2, hwk]; refine ⟨by kernel_rfl, hK _ ?_⟩; clear hK K) | refine walkL_nil ?_ | refine walkL_ret ?_ | refine walkL_exit ?_ | refine blockA_here ?_ | refine blockA_other rfl ?_ | refine blockA_ret ?_ | refine blockA_normal ?_ | refine thenA_ret ?_ | refine thenA_exit ?_ | refine thenA_normal ?_)
                    refine ⟨rfl, k + 1, ?_, hltk, by omega⟩
                    rw [hnx]
                    refine weak_of [] ?_ ?_ rfl rfl <;> simp [lessT, lessM, lessB, AV.less]
                · have he : k = P.length := by (have : ¬ k < P.length := by simpa using hb); omega
                  subst he
                  have ht : (P.take P.length).any (· == r) = true := by
                    rw [List.take_length, List.any_eq_true]
                    exact ⟨r, hrP, by simp⟩
                  rw [ht]
                  repeat (first | refine walkL_true rfl ?_ | refine walkL_false rfl ?_ | refine walkL_seq ?_ | refine walkL_skip ?_ | refine walkL_block ?_ | (refine walkL_region fun K hK => ?_; simp (maxSteps := 4000000) only [go_sem, hw]; refine hK _ ?_; clear hK K) | refine walkL_nil ?_ | refine walkL_ret ?_ | refine walkL_exit ?_ | refine blockA_here ?_ | refine blockA_other rfl ?_ | refine blockA_ret ?_ | refine blockA_normal ?_ | refine thenA_ret ?_ | refine thenA_exit ?_ | refine thenA_normal ?_)
                  refine ⟨rfl, i + 1, ?_, hlt, by omega⟩
                  refine weak_of [] ?_ ?_ rfl rfl <;> simp [lessT, lessM, lessB, AV.less]
            · have he : i = R.length := by (have : ¬ i < R.length := by simpa using hb); omega
              subst he
              repeat (first | refine walkL_true rfl ?_ | refine walkL_false rfl ?_ | refine walkL_seq ?_ | refine walkL_skip ?_ | refine walkL_block ?_ | (refine walkL_region fun K hK => ?_; simp (maxSteps := 4000000) only [go_sem]; (repeat (first | (refine ⟨_, .lent (hf := h10) (hd := rfl) (hr := rfl), ?_⟩; simp (maxSteps := 4000000) only [go_sem]) | (refine ⟨_, .given (hf := h10) (hd := rfl) (ha := rfl), ?_⟩; simp (maxSteps := 4000000) only [go_sem]))); refine hK _ ?_; clear hK K) | refine walkL_nil ?_ | refine walkL_ret ?_ | refine walkL_exit ?_ | refine blockA_here ?_ | refine blockA_other rfl ?_ | refine blockA_ret ?_ | refine blockA_normal ?_ | refine thenA_ret ?_ | refine thenA_exit ?_ | refine thenA_normal ?_)
              simp (maxSteps := 4000000) only [go_sem]
        · have hem3 : em = 3 := by
            split at hlm
            · exact hlm
            · exact absurd hlm hem0
          rw [hem3] at m12
          have z3 : ((3 : Int) = 0) = False := by simp
          simp only [z3, if_false] at m12
          have e1 : intRows [] = [] := rfl
          rw [e1] at m12
          repeat (first | refine walkL_true rfl ?_ | refine walkL_false rfl ?_ | refine walkL_seq ?_ | refine walkL_skip ?_ | refine walkL_block ?_ | (refine walkL_region fun K hK => ?_; simp (maxSteps := 4000000) only [go_sem]; (repeat (first | (refine ⟨_, .lent (hf := m8) (hd := rfl) (hr := rfl), ?_⟩; simp (maxSteps := 4000000) only [go_sem]) | (refine ⟨_, .lent (hf := m12) (hd := rfl) (hr := rfl), ?_⟩; simp (maxSteps := 4000000) only [go_sem]) | (refine ⟨_, .lent (hf := h10) (hd := rfl) (hr := rfl), ?_⟩; simp (maxSteps := 4000000) only [go_sem]) | (refine ⟨_, .given (hf := m8) (hd := rfl) (ha := rfl), ?_⟩; simp (maxSteps := 4000000) only [go_sem]) | (refine ⟨_, .given (hf := m12) (hd := rfl) (ha := rfl), ?_⟩; simp (maxSteps := 4000000) only [go_sem]) | (refine ⟨_, .given (hf := h10) (hd := rfl) (ha := rfl), ?_⟩; simp (maxSteps := 4000000) only [go_sem]))); refine hK _ ?_; clear hK K) | refine walkL_nil ?_ | refine walkL_ret ?_ | refine walkL_exit ?_ | refine blockA_here ?_ | refine blockA_other rfl ?_ | refine blockA_ret ?_ | refine blockA_normal ?_ | refine thenA_ret ?_ | refine thenA_exit ?_ | refine thenA_normal ?_)
          simp (maxSteps := 4000000) only [go_sem]
      · obtain ⟨se, hse⟩ : ∃ se, se = seenF F M := ⟨_, rfl⟩
        rw [← hse] at m8 hm0
        have hz : (se != 0) = true := by simpa using hm0
        repeat (first | refine walkL_true rfl ?_ | refine walkL_false rfl ?_ | refine walkL_seq ?_ | refine walkL_skip ?_ | refine walkL_block ?_ | (refine walkL_region fun K hK => ?_; simp (maxSteps := 4000000) only [go_sem, hz]; (repeat (first | (refine ⟨_, .lent (hf := m8) (hd := rfl) (hr := rfl), ?_⟩; simp (maxSteps := 4000000) only [go_sem, hz]) | (refine ⟨_, .lent (hf := h10) (hd := rfl) (hr := rfl), ?_⟩; simp (maxSteps := 4000000) only [go_sem, hz]) | (refine ⟨_, .given (hf := m8) (hd := rfl) (ha := rfl), ?_⟩; simp (maxSteps := 4000000) only [go_sem, hz]) | (refine ⟨_, .given (hf := h10) (hd := rfl) (ha := rfl), ?_⟩; simp (maxSteps := 4000000) only [go_sem, hz]))); refine hK _ ?_; clear hK K) | refine walkL_nil ?_ | refine walkL_ret ?_ | refine walkL_exit ?_ | refine blockA_here ?_ | refine blockA_other rfl ?_ | refine blockA_ret ?_ | refine blockA_normal ?_ | refine thenA_ret ?_ | refine thenA_exit ?_ | refine thenA_normal ?_)
        simp (maxSteps := 4000000) only [go_sem]
    · have he3 : e = 3 := by
        have := (seen_vals F x.seen true).2 b2
        rw [← he] at this
        have := this.2.2
        simp only [if_true] at this
        split at this
        · exact this
        · exact absurd this he0
      have lk1 : lookF F x.seen (limE x.lim) true = 3 := by unfold limE; rw [if_pos b3, ← he, he3]
      have lk2 : lookF F x.seen (limE W) true = 3 := by unfold limE; rw [if_pos hWl, ← he, he3]
      have hwn : withinB x.len 1 48 = true := within_iff.2 ⟨b4, b5⟩
      have k13 : keepsF F x.seen x.lim = ([], [], 3) := by unfold keepsF; rw [lk1]; rfl
      have k13w : keepsF F x.seen W = ([], [], 3) := by unfold keepsF; rw [lk2]; rfl
      have k14 : gapF F x.seen x.lim x.len = (0, 3) := by unfold gapF; rw [hwn, lk1]; rfl
      have k14w : gapF F x.seen W x.len = (0, 3) := by unfold gapF; rw [hwn, lk2]; rfl
      rw [k13] at h13
      rw [k13w] at h13w
      rw [k14] at h14
      rw [k14w] at h14w
      rw [he3] at h12
      have z3 : ((3 : Int) = 0) = False := by simp
      simp only [z3, if_false] at h12
      dsimp only at h13 h13w h14 h14w
      have e0 : spanRows [] = [] := rfl
      have e1 : intRows [] = [] := rfl
      rw [e0] at h13 h13w
      rw [e1] at h12
      have h16 := f16 [] [] H (by simp) (by simp) (by omega)
      have w16 : withinS [] [] H = true := withinS_iff.2 fun h _ hh => hh
      rw [w16, e0] at h16
      repeat (first | refine walkL_true rfl ?_ | refine walkL_false rfl ?_ | refine walkL_seq ?_ | refine walkL_skip ?_ | refine walkL_block ?_ | (refine walkL_region fun K hK => ?_; simp (maxSteps := 4000000) only [go_sem, ls1, ls2, ls3, List.nil_append, List.length_nil]; (repeat (first | (refine ⟨_, .lent (hf := h11) (hd := rfl) (hr := rfl), ?_⟩; simp (maxSteps := 4000000) only [go_sem, ls1, ls2, ls3, List.nil_append, List.length_nil]) | (refine ⟨_, .lent (hf := h12) (hd := rfl) (hr := rfl), ?_⟩; simp (maxSteps := 4000000) only [go_sem, ls1, ls2, ls3, List.nil_append, List.length_nil]) | (refine ⟨_, .lent (hf := h13) (hd := rfl) (hr := rfl), ?_⟩; simp (maxSteps := 4000000) only [go_sem, ls1, ls2, ls3, List.nil_append, List.length_nil]) | (refine ⟨_, .lent (hf := h14) (hd := rfl) (hr := rfl), ?_⟩; simp (maxSteps := 4000000) only [go_sem, ls1, ls2, ls3, List.nil_append, List.length_nil]) | (refine ⟨_, .lent (hf := h15) (hd := rfl) (hr := rfl), ?_⟩; simp (maxSteps := 4000000) only [go_sem, ls1, ls2, ls3, List.nil_append, List.length_nil]) | (refine ⟨_, .lent (hf := h13w) (hd := rfl) (hr := rfl), ?_⟩; simp (maxSteps := 4000000) only [go_sem, ls1, ls2, ls3, List.nil_append, List.length_nil]) | (refine ⟨_, .lent (hf := h14w) (hd := rfl) (hr := rfl), ?_⟩; simp (maxSteps := 4000000) only [go_sem, ls1, ls2, ls3, List.nil_append, List.length_nil]) | (refine ⟨_, .lent (hf := h16) (hd := rfl) (hr := rfl), ?_⟩; simp (maxSteps := 4000000) only [go_sem, ls1, ls2, ls3, List.nil_append, List.length_nil]) | (refine ⟨_, .given (hf := h11) (hd := rfl) (ha := rfl), ?_⟩; simp (maxSteps := 4000000) only [go_sem, ls1, ls2, ls3, List.nil_append, List.length_nil]) | (refine ⟨_, .given (hf := h12) (hd := rfl) (ha := rfl), ?_⟩; simp (maxSteps := 4000000) only [go_sem, ls1, ls2, ls3, List.nil_append, List.length_nil]) | (refine ⟨_, .given (hf := h13) (hd := rfl) (ha := rfl), ?_⟩; simp (maxSteps := 4000000) only [go_sem, ls1, ls2, ls3, List.nil_append, List.length_nil]) | (refine ⟨_, .given (hf := h14) (hd := rfl) (ha := rfl), ?_⟩; simp (maxSteps := 4000000) only [go_sem, ls1, ls2, ls3, List.nil_append, List.length_nil]) | (refine ⟨_, .given (hf := h15) (hd := rfl) (ha := rfl), ?_⟩; simp (maxSteps := 4000000) only [go_sem, ls1, ls2, ls3, List.nil_append, List.length_nil]) | (refine ⟨_, .given (hf := h13w) (hd := rfl) (ha := rfl), ?_⟩; simp (maxSteps := 4000000) only [go_sem, ls1, ls2, ls3, List.nil_append, List.length_nil]) | (refine ⟨_, .given (hf := h14w) (hd := rfl) (ha := rfl), ?_⟩; simp (maxSteps := 4000000) only [go_sem, ls1, ls2, ls3, List.nil_append, List.length_nil]) | (refine ⟨_, .given (hf := h16) (hd := rfl) (ha := rfl), ?_⟩; simp (maxSteps := 4000000) only [go_sem, ls1, ls2, ls3, List.nil_append, List.length_nil]))); refine hK _ ?_; clear hK K) | (refine walkL_drawn (by kernel_rfl) (by kernel_rfl) fun K hK => ?_; simp (maxSteps := 4000000) only [go_sem, ls1, ls2, ls3, List.nil_append, List.length_nil]; (repeat (first | (refine ⟨_, .fn (hf := h11) (hd := rfl) (hr := .inl rfl), ?_⟩; simp (maxSteps := 4000000) only [go_sem, ls1, ls2, ls3, List.nil_append, List.length_nil]) | (refine ⟨_, .fn (hf := h12) (hd := rfl) (hr := .inl rfl), ?_⟩; simp (maxSteps := 4000000) only [go_sem, ls1, ls2, ls3, List.nil_append, List.length_nil]) | (refine ⟨_, .fn (hf := h13) (hd := rfl) (hr := .inl rfl), ?_⟩; simp (maxSteps := 4000000) only [go_sem, ls1, ls2, ls3, List.nil_append, List.length_nil]) | (refine ⟨_, .fn (hf := h14) (hd := rfl) (hr := .inl rfl), ?_⟩; simp (maxSteps := 4000000) only [go_sem, ls1, ls2, ls3, List.nil_append, List.length_nil]) | (refine ⟨_, .fn (hf := h15) (hd := rfl) (hr := .inl rfl), ?_⟩; simp (maxSteps := 4000000) only [go_sem, ls1, ls2, ls3, List.nil_append, List.length_nil]) | (refine ⟨_, .fn (hf := h13w) (hd := rfl) (hr := .inl rfl), ?_⟩; simp (maxSteps := 4000000) only [go_sem, ls1, ls2, ls3, List.nil_append, List.length_nil]) | (refine ⟨_, .fn (hf := h14w) (hd := rfl) (hr := .inl rfl), ?_⟩; simp (maxSteps := 4000000) only [go_sem, ls1, ls2, ls3, List.nil_append, List.length_nil]) | (refine ⟨_, .fn (hf := h16) (hd := rfl) (hr := .inl rfl), ?_⟩; simp (maxSteps := 4000000) only [go_sem, ls1, ls2, ls3, List.nil_append, List.length_nil]))); refine ⟨by kernel_rfl, hK _ ?_⟩; clear hK K) | refine walkL_nil ?_ | refine walkL_ret ?_ | refine walkL_exit ?_ | refine blockA_here ?_ | refine blockA_other rfl ?_ | refine blockA_ret ?_ | refine blockA_normal ?_ | refine thenA_ret ?_ | refine thenA_exit ?_ | refine thenA_normal ?_)
      refine walkL_drawnR [188] (by kernel_rfl) (by kernel_rfl) fun K hK => ?_
      simp (maxSteps := 4000000) only [go_sem, ls1, ls2, ls3, sightRows_len, List.nil_append, List.length_nil, ← hpush]
      refine ⟨by kernel_rfl, hK _ ?_⟩
      clear hK K
      by_cases hm0 : seenF F M = 0
      · have hem3 : em = 3 := by
          have := ((seen_vals F M true).2 hm0).2.2
          rw [← hem] at this
          simp only [if_true] at this
          split at this
          · exact this
          · rename_i hne
            exfalso
            apply hne
            have hp : possL F x.seen = [] := by
              have := ((seen_vals F x.seen true).2 b2).2.2
              rw [← he, he3] at this
              simp only [if_true] at this
              split at this
              · rename_i h; exact List.isEmpty_iff.1 h
              · cases this
            have hnum : numsOf (possL F M) = [] := by
              cases hq : numsOf (possL F M) with
              | nil => rfl
              | cons k t =>
                have := nums_more (x := y.sight) k (by rw [← hM, hq]; simp)
                rw [hp] at this
                simp [numsOf] at this
            cases hq : possL F M with
            | nil => rfl
            | cons k t => rw [hq] at hnum; simp [numsOf] at hnum
        rw [hm0] at m8
        rw [hem3] at m12
        simp only [z3, if_false] at m12
        rw [e1] at m12
        repeat (first | refine walkL_true rfl ?_ | refine walkL_false rfl ?_ | refine walkL_seq ?_ | refine walkL_skip ?_ | refine walkL_block ?_ | (refine walkL_region fun K hK => ?_; simp (maxSteps := 4000000) only [go_sem]; (repeat (first | (refine ⟨_, .lent (hf := m8) (hd := rfl) (hr := rfl), ?_⟩; simp (maxSteps := 4000000) only [go_sem]) | (refine ⟨_, .lent (hf := m12) (hd := rfl) (hr := rfl), ?_⟩; simp (maxSteps := 4000000) only [go_sem]) | (refine ⟨_, .lent (hf := h10) (hd := rfl) (hr := rfl), ?_⟩; simp (maxSteps := 4000000) only [go_sem]) | (refine ⟨_, .given (hf := m8) (hd := rfl) (ha := rfl), ?_⟩; simp (maxSteps := 4000000) only [go_sem]) | (refine ⟨_, .given (hf := m12) (hd := rfl) (ha := rfl), ?_⟩; simp (maxSteps := 4000000) only [go_sem]) | (refine ⟨_, .given (hf := h10) (hd := rfl) (ha := rfl), ?_⟩; simp (maxSteps := 4000000) only [go_sem]))); refine hK _ ?_; clear hK K) | refine walkL_nil ?_ | refine walkL_ret ?_ | refine walkL_exit ?_ | refine blockA_here ?_ | refine blockA_other rfl ?_ | refine blockA_ret ?_ | refine blockA_normal ?_ | refine thenA_ret ?_ | refine thenA_exit ?_ | refine thenA_normal ?_)
        simp (maxSteps := 4000000) only [go_sem]
      · obtain ⟨se, hse⟩ : ∃ se, se = seenF F M := ⟨_, rfl⟩
        rw [← hse] at m8 hm0
        have hz : (se != 0) = true := by simpa using hm0
        repeat (first | refine walkL_true rfl ?_ | refine walkL_false rfl ?_ | refine walkL_seq ?_ | refine walkL_skip ?_ | refine walkL_block ?_ | (refine walkL_region fun K hK => ?_; simp (maxSteps := 4000000) only [go_sem, hz]; (repeat (first | (refine ⟨_, .lent (hf := m8) (hd := rfl) (hr := rfl), ?_⟩; simp (maxSteps := 4000000) only [go_sem, hz]) | (refine ⟨_, .lent (hf := h10) (hd := rfl) (hr := rfl), ?_⟩; simp (maxSteps := 4000000) only [go_sem, hz]) | (refine ⟨_, .given (hf := m8) (hd := rfl) (ha := rfl), ?_⟩; simp (maxSteps := 4000000) only [go_sem, hz]) | (refine ⟨_, .given (hf := h10) (hd := rfl) (ha := rfl), ?_⟩; simp (maxSteps := 4000000) only [go_sem, hz]))); refine hK _ ?_; clear hK K) | refine walkL_nil ?_ | refine walkL_ret ?_ | refine walkL_exit ?_ | refine blockA_here ?_ | refine blockA_other rfl ?_ | refine blockA_ret ?_ | refine blockA_normal ?_ | refine thenA_ret ?_ | refine thenA_exit ?_ | refine thenA_normal ?_)
        simp (maxSteps := 4000000) only [go_sem]
  · simp (maxSteps := 4000000) only [go_sem]
    repeat (first | refine walkL_true rfl ?_ | refine walkL_false rfl ?_ | refine walkL_seq ?_ | refine walkL_skip ?_ | refine walkL_block ?_ | (refine walkL_region fun K hK => ?_; simp (maxSteps := 4000000) only [go_sem]; (repeat (first | (refine ⟨_, .lent (hf := h10) (hd := rfl) (hr := rfl), ?_⟩; simp (maxSteps := 4000000) only [go_sem]) | (refine ⟨_, .given (hf := h10) (hd := rfl) (ha := rfl), ?_⟩; simp (maxSteps := 4000000) only [go_sem]))); refine hK _ ?_; clear hK K) | refine walkL_nil ?_ | refine walkL_ret ?_ | refine walkL_exit ?_ | refine blockA_here ?_ | refine blockA_other rfl ?_ | refine blockA_ret ?_ | refine blockA_normal ?_ | refine thenA_ret ?_ | refine thenA_exit ?_ | refine thenA_normal ?_)
    simp (maxSteps := 4000000) only [go_sem]
end Go.Ab
