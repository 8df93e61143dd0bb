/- A walk engine over abstract states, and the contracts of the functions that the statement reaches: part 6. -/
import Derived.Test.YtnlodbjgmfmlnaaGreatWe
set_option linter.unusedVariables false
set_option linter.unusedSimpArgs false
set_option linter.unnecessarySimpa false
namespace Go.Ab
open Go.RowKit Go.Proofs
set_option maxHeartbeats 8000000
set_option maxRecDepth 20000
attribute [local irreducible] WalkL Walk
theorem zf133 (k : Kitchen) (hg : KitGood k) (n : Nat) (no : Int) (hn : n < k.dishes.length) : Fn Tryz.prog 133 [.agg k.cells, .i (n : Int), .i no] (.bool (suitsB k (n : Int) no)) := by
  have gd := dish_at hn
  have hl := dish_len hg hn
  have hgo := hg.goods
  have hnn : ¬ ((n : Int) < 0) := by omega
  unfold suitsB
  obtain ⟨N, hN⟩ : ∃ N, N = (dishAt k (n : Int)).needs := ⟨_, rfl⟩
  rw [← hN] at gd hl ⊢
  refine fn_walk 35 Tryz.call133 Tryz.func133 rfl (by decide) fun J => ?_
  simp (maxSteps := 4000000) only [go_sem, St.start, Tryz.ntmps133, Tryz.results133, Kitchen.cells]
  repeat (first | refine walkL_seq ?_ | refine walkL_skip ?_ | refine walkL_block ?_ | (refine walkL_region fun K hK => ?_; simp (maxSteps := 4000000) only [go_sem]; refine hK _ ?_; clear hK K) | refine walkL_nil ?_ | refine walkL_ret ?_ | refine walkL_exit ?_ | refine blockA_here ?_ | refine blockA_other rfl ?_ | refine blockA_ret ?_ | refine blockA_normal ?_ | refine thenA_ret ?_ | refine thenA_exit ?_ | refine thenA_normal ?_)
  refine walkL_loopS (fun (i : Nat) => [(7, .d (.i (i : Int)))]) (fun _ => []) (fun i => i ≤ k.allerg.length ∧ suitTo k.allerg N no i = true) (fun i => k.allerg.length - i) 0 ?_ ⟨Nat.zero_le _, rfl⟩ ?_
  · simp (maxSteps := 4000000) only [go_sem]
    refine weak_of [] ?_ ?_ rfl rfl <;> simp [lessT, lessM, lessB, AV.less]
  · rintro i ⟨hi, hs⟩
    simp (maxSteps := 4000000) only [go_sem]
    repeat (first | refine walkL_seq ?_ | refine walkL_skip ?_ | refine walkL_block ?_ | (refine walkL_region fun K hK => ?_; simp (maxSteps := 4000000) only [go_sem]; refine hK _ ?_; clear hK K) | refine walkL_nil ?_ | refine walkL_ret ?_ | refine walkL_exit ?_ | refine blockA_here ?_ | refine blockA_other rfl ?_ | refine blockA_ret ?_ | refine blockA_normal ?_ | refine thenA_ret ?_ | refine thenA_exit ?_ | refine thenA_normal ?_)
    refine walkL_cond rfl (fun hb => ?_) (fun hb => ?_)
    · have hlt : i < k.allerg.length := by simpa using hb
      have hw : IntKind.i64.wrap ((i : Int) + 1) = ((i + 1 : Nat) : Int) := by rw [wr_small (by omega)]; simp
      have g1 := intRows_getI (l := N) (i := i) (by omega)
      have g2 := intRows_getI (l := k.allerg) (i := i) (by omega)
      have hni : ¬ ((i : Int) < 0) := by omega
      cases q1 : decide (getI N (i : Int) > 0)
      · have hbg : badGood k.allerg N no i = false := by rw [badGood, q1]; rfl
        repeat (first | refine walkL_true rfl ?_ | refine walkL_false rfl ?_ | refine walkL_seq ?_ | refine walkL_skip ?_ | refine walkL_block ?_ | (refine walkL_region fun K hK => ?_; simp (maxSteps := 4000000) only [go_sem, gd, hnn, g1, q1, hni, hw]; refine hK _ ?_; clear hK K) | refine walkL_nil ?_ | refine walkL_ret ?_ | refine walkL_exit ?_ | refine blockA_here ?_ | refine blockA_other rfl ?_ | refine blockA_ret ?_ | refine blockA_normal ?_ | refine thenA_ret ?_ | refine thenA_exit ?_ | refine thenA_normal ?_)
        refine ⟨rfl, i + 1, ?_, ⟨hlt, by rw [suitTo, hs, hbg]; rfl⟩, by omega⟩
        refine weak_of [] ?_ ?_ rfl rfl <;> simp [lessT, lessM, lessB, AV.less]
      · cases q2 : (bAnd .i64 (getI k.allerg (i : Int)) no != 0)
        · have hbg : badGood k.allerg N no i = false := by rw [badGood, q2, Bool.and_false]
          repeat (first | refine walkL_true rfl ?_ | refine walkL_false rfl ?_ | refine walkL_seq ?_ | refine walkL_skip ?_ | refine walkL_block ?_ | (refine walkL_region fun K hK => ?_; simp (maxSteps := 4000000) only [go_sem, gd, hnn, g1, g2, q1, q2, hni, hw]; refine hK _ ?_; clear hK K) | refine walkL_nil ?_ | refine walkL_ret ?_ | refine walkL_exit ?_ | refine blockA_here ?_ | refine blockA_other rfl ?_ | refine blockA_ret ?_ | refine blockA_normal ?_ | refine thenA_ret ?_ | refine thenA_exit ?_ | refine thenA_normal ?_)
          refine ⟨rfl, i + 1, ?_, ⟨hlt, by rw [suitTo, hs, hbg]; rfl⟩, by omega⟩
          refine weak_of [] ?_ ?_ rfl rfl <;> simp [lessT, lessM, lessB, AV.less]
        · have hbg : badGood k.allerg N no i = true := by rw [badGood, q1, q2]; rfl
          rw [suitTo_stop hbg (m := N.length) (by omega)]
          repeat (first | refine walkL_true rfl ?_ | refine walkL_false rfl ?_ | refine walkL_seq ?_ | refine walkL_skip ?_ | refine walkL_block ?_ | (refine walkL_region fun K hK => ?_; simp (maxSteps := 4000000) only [go_sem, gd, hnn, g1, g2, q1, q2, hni]; refine hK _ ?_; clear hK K) | refine walkL_nil ?_ | refine walkL_ret ?_ | refine walkL_exit ?_ | refine blockA_here ?_ | refine blockA_other rfl ?_ | refine blockA_ret ?_ | refine blockA_normal ?_ | refine thenA_ret ?_ | refine thenA_exit ?_ | refine thenA_normal ?_)
          simp (maxSteps := 4000000) only [go_sem]
    · have he : i = k.allerg.length := by (have : ¬ i < k.allerg.length := by simpa using hb); omega
      subst he
      rw [hl, hs]
      repeat (first | refine walkL_seq ?_ | refine walkL_skip ?_ | refine walkL_block ?_ | (refine walkL_region fun K hK => ?_; simp (maxSteps := 4000000) only [go_sem]; refine hK _ ?_; clear hK K) | refine walkL_nil ?_ | refine walkL_ret ?_ | refine walkL_exit ?_ | refine blockA_here ?_ | refine blockA_other rfl ?_ | refine blockA_ret ?_ | refine blockA_normal ?_ | refine thenA_ret ?_ | refine thenA_exit ?_ | refine thenA_normal ?_)
      simp (maxSteps := 4000000) only [go_sem]
theorem zf82 (k : Kitchen) (hg : KitGood k) (M : List (List Int)) (hM : M.length < 2 ^ 30) (hMr : ∀ r ∈ M, r.length < 2 ^ 30) : Fn Tryz.prog 82 [.agg k.cells, .sl (listRows M)] (.bool (shapedB (menuB k) M k.days)) := by
  obtain ⟨q, hqd⟩ : ∃ q, q = menuB k := ⟨_, rfl⟩
  have hq : ∀ (n : Int) (g : Diners), q n g = (withinB n 0 ((k.dishes.length : Int) - 1) && suitsB k n g.no) := fun n g => by rw [hqd]; rfl
  rw [← hqd]
  have hgr := hg.groups
  have hdl := hg.dishes
  have w : IntKind.i64.wrap ((k.dishes.length : Int) - 1) = (k.dishes.length : Int) - 1 := wr_small (by omega)
  obtain ⟨R, hR⟩ : ∃ R, R = shapedB q M k.days := ⟨_, rfl⟩
  rw [← hR]
  cases q1 : ((M.length : Int) != (k.days.length : Int))
  · have hl : M.length = k.days.length := by
      simp only [bne_eq_false_iff_eq] at q1
      omega
    refine fn_walk 74 Tryz.call82 Tryz.func82 rfl (by decide) fun J => ?_
    simp (maxSteps := 4000000) only [go_sem, St.start, Tryz.ntmps82, Tryz.results82, Kitchen.cells]
    repeat (first | refine walkL_true rfl ?_ | refine walkL_false rfl ?_ | refine walkL_seq ?_ | refine walkL_skip ?_ | refine walkL_block ?_ | (refine walkL_region fun K hK => ?_; simp (maxSteps := 4000000) only [go_sem, q1, listRows_len]; refine hK _ ?_; clear hK K) | refine walkL_nil ?_ | refine walkL_ret ?_ | refine walkL_exit ?_ | refine blockA_here ?_ | refine blockA_other rfl ?_ | refine blockA_ret ?_ | refine blockA_normal ?_ | refine thenA_ret ?_ | refine thenA_exit ?_ | refine thenA_normal ?_)
    refine walkL_loopS (fun (i : Nat) => [(5, .d (.i (i : Int))), (6, .undef)]) (fun _ => []) (fun i => i ≤ M.length ∧ R = shapedB q (M.drop i) (k.days.drop i)) (fun i => M.length - i) 0 ?_ ⟨Nat.zero_le _, hR⟩ ?_
    · simp (maxSteps := 4000000) only [go_sem]
      refine weak_of [] ?_ ?_ rfl rfl <;> simp [lessT, lessM, lessB, AV.less]
    · rintro i ⟨hi, hRi⟩
      simp (maxSteps := 4000000) only [go_sem]
      repeat (first | refine walkL_seq ?_ | refine walkL_skip ?_ | refine walkL_block ?_ | (refine walkL_region fun K hK => ?_; simp (maxSteps := 4000000) only [go_sem, listRows_len]; refine hK _ ?_; clear hK K) | refine walkL_nil ?_ | refine walkL_ret ?_ | refine walkL_exit ?_ | refine blockA_here ?_ | refine blockA_other rfl ?_ | refine blockA_ret ?_ | refine blockA_normal ?_ | refine thenA_ret ?_ | refine thenA_exit ?_ | refine thenA_normal ?_)
      refine walkL_cond rfl (fun hb => ?_) (fun hb => ?_)
      · have hlt : i < M.length := by simpa using hb
        have hw : IntKind.i64.wrap ((i : Int) + 1) = ((i + 1 : Nat) : Int) := by rw [wr_small (by omega)]; simp
        obtain ⟨d, hd⟩ : ∃ d, k.days[i]? = some d := ⟨_, List.getElem?_eq_getElem (by omega)⟩
        obtain ⟨r, hr⟩ : ∃ r, M[i]? = some r := ⟨_, List.getElem?_eq_getElem (by omega)⟩
        have g1 := dayRows_at hd
        have g2 := listRows_at hr
        have hni : ¬ ((i : Int) < 0) := by omega
        have hd3 := (hgr d (List.mem_of_getElem? hd)).1
        rw [drop_get hd, drop_get hr, shapedB] at hRi
        cases q2 : ((r.length : Int) != (d.length : Int))
        · have hrl : r.length = d.length := by
            simp only [bne_eq_false_iff_eq] at q2
            omega
          repeat (first | refine walkL_seq ?_ | refine walkL_skip ?_ | refine walkL_block ?_ | (refine walkL_region fun K hK => ?_; simp (maxSteps := 4000000) only [go_sem]; refine hK _ ?_; clear hK K) | refine walkL_nil ?_ | refine walkL_ret ?_ | refine walkL_exit ?_ | refine blockA_here ?_ | refine blockA_other rfl ?_ | refine blockA_ret ?_ | refine blockA_normal ?_ | refine thenA_ret ?_ | refine thenA_exit ?_ | refine thenA_normal ?_)
          refine walkL_drawn (by kernel_rfl) (by kernel_rfl) fun K hK => ?_
          simp (maxSteps := 4000000) only [go_sem, g1, g2, hni, q2]
          refine ⟨by kernel_rfl, hK _ ?_⟩
          clear hK K
          repeat (first | refine walkL_true rfl ?_ | refine walkL_false rfl ?_ | refine walkL_seq ?_ | refine walkL_skip ?_ | refine walkL_block ?_ | (refine walkL_region fun K hK => ?_; simp (maxSteps := 4000000) only [go_sem]; refine hK _ ?_; clear hK K) | refine walkL_nil ?_ | refine walkL_ret ?_ | refine walkL_exit ?_ | refine blockA_here ?_ | refine blockA_other rfl ?_ | refine blockA_ret ?_ | refine blockA_normal ?_ | refine thenA_ret ?_ | refine thenA_exit ?_ | refine thenA_normal ?_)
          refine walkL_loopS (fun (j : Nat) => [(6, .d (.i (j : Int)))]) (fun _ => []) (fun j => j ≤ r.length ∧ R = (rowOk q (r.drop j) (d.drop j) && shapedB q (M.drop (i + 1)) (k.days.drop (i + 1)))) (fun j => r.length - j) 0 ?_ ⟨Nat.zero_le _, hRi⟩ ?_
          · simp (maxSteps := 4000000) only [go_sem]
            refine weak_of [] ?_ ?_ rfl rfl <;> simp [lessT, lessM, lessB, AV.less]
          · rintro j ⟨hj, hRj⟩
            simp (maxSteps := 4000000) only [go_sem]
            repeat (first | refine walkL_seq ?_ | refine walkL_skip ?_ | refine walkL_block ?_ | (refine walkL_region fun K hK => ?_; simp (maxSteps := 4000000) only [go_sem, g2, hni]; refine hK _ ?_; clear hK K) | refine walkL_nil ?_ | refine walkL_ret ?_ | refine walkL_exit ?_ | refine blockA_here ?_ | refine blockA_other rfl ?_ | refine blockA_ret ?_ | refine blockA_normal ?_ | refine thenA_ret ?_ | refine thenA_exit ?_ | refine thenA_normal ?_)
            refine walkL_cond rfl (fun hb => ?_) (fun hb => ?_)
            · have hltj : j < r.length := by simpa using hb
              have hwj : IntKind.i64.wrap ((j : Int) + 1) = ((j + 1 : Nat) : Int) := by rw [wr_small (by omega)]; simp
              obtain ⟨g, hgj⟩ : ∃ g, d[j]? = some g := ⟨_, List.getElem?_eq_getElem (by omega)⟩
              obtain ⟨n, hnj⟩ : ∃ n, r[j]? = some n := ⟨_, List.getElem?_eq_getElem (by omega)⟩
              have g3 := dinRows_at hgj
              have g4 := intRows_at hnj
              rw [Diners.row] at g3
              have hnjj : ¬ ((j : Int) < 0) := by omega
              have c1 := zf91 n 0 ((k.dishes.length : Int) - 1)
              rw [drop_get hgj, drop_get hnj, rowOk, hq] at hRj
              cases q3 : withinB n 0 ((k.dishes.length : Int) - 1)
              · rw [q3] at hRj c1
                rw [Bool.false_and, Bool.false_and, Bool.false_and] at hRj
                rw [hRj]
                repeat (first | refine walkL_seq ?_ | refine walkL_skip ?_ | refine walkL_block ?_ | (refine walkL_region fun K hK => ?_; simp (maxSteps := 4000000) only [go_sem]; refine hK _ ?_; clear hK K) | refine walkL_nil ?_ | refine walkL_ret ?_ | refine walkL_exit ?_ | refine blockA_here ?_ | refine blockA_other rfl ?_ | refine blockA_ret ?_ | refine blockA_normal ?_ | refine thenA_ret ?_ | refine thenA_exit ?_ | refine thenA_normal ?_)
                refine walkL_drawn (by kernel_rfl) (by kernel_rfl) fun K hK => ?_
                simp (maxSteps := 4000000) only [go_sem, g1, g2, g3, g4, hni, hnjj, w]
                refine ⟨_, .fn (hf := c1) (hd := rfl) (hr := .inl rfl), ?_⟩
                simp (maxSteps := 4000000) only [go_sem]
                refine ⟨by kernel_rfl, hK _ ?_⟩
                clear hK K
                repeat (first | refine walkL_true rfl ?_ | refine walkL_false rfl ?_ | refine walkL_seq ?_ | refine walkL_skip ?_ | refine walkL_block ?_ | (refine walkL_region fun K hK => ?_; simp (maxSteps := 4000000) only [go_sem]; refine hK _ ?_; clear hK K) | refine walkL_nil ?_ | refine walkL_ret ?_ | refine walkL_exit ?_ | refine blockA_here ?_ | refine blockA_other rfl ?_ | refine blockA_ret ?_ | refine blockA_normal ?_ | refine thenA_ret ?_ | refine thenA_exit ?_ | refine thenA_normal ?_)
                simp (maxSteps := 4000000) only [go_sem]
              · rw [q3] at hRj c1
                rw [Bool.true_and] at hRj
                have hw3 := within_iff.1 q3
                obtain ⟨m, rfl⟩ : ∃ m : Nat, n = (m : Int) := ⟨n.toNat, by omega⟩
                have c2 := zf133 k hg m g.no (by omega)
                cases q4 : suitsB k (m : Int) g.no
                · rw [q4] at hRj c2
                  rw [Bool.false_and, Bool.false_and] at hRj
                  rw [hRj]
                  rw [Kitchen.cells] at c2
                  repeat (first | refine walkL_seq ?_ | refine walkL_skip ?_ | refine walkL_block ?_ | (refine walkL_region fun K hK => ?_; simp (maxSteps := 4000000) only [go_sem]; refine hK _ ?_; clear hK K) | refine walkL_nil ?_ | refine walkL_ret ?_ | refine walkL_exit ?_ | refine blockA_here ?_ | refine blockA_other rfl ?_ | refine blockA_ret ?_ | refine blockA_normal ?_ | refine thenA_ret ?_ | refine thenA_exit ?_ | refine thenA_normal ?_)
                  refine walkL_drawn (by kernel_rfl) (by kernel_rfl) fun K hK => ?_
                  simp (maxSteps := 4000000) only [go_sem, g1, g2, g3, g4, hni, hnjj, w]
                  refine ⟨_, .fn (hf := c1) (hd := rfl) (hr := .inl rfl), ?_⟩
                  simp (maxSteps := 4000000) only [go_sem, g1, g2, g3, g4, hni, hnjj]
                  refine ⟨_, .fn (hf := c2) (hd := rfl) (hr := .inl rfl), ?_⟩
                  simp (maxSteps := 4000000) only [go_sem]
                  refine ⟨by kernel_rfl, hK _ ?_⟩
                  clear hK K
                  repeat (first | refine walkL_true rfl ?_ | refine walkL_false rfl ?_ | refine walkL_seq ?_ | refine walkL_skip ?_ | refine walkL_block ?_ | (refine walkL_region fun K hK => ?_; simp (maxSteps := 4000000) only [go_sem]; refine hK _ ?_; clear hK K) | refine walkL_nil ?_ | refine walkL_ret ?_ | refine walkL_exit ?_ | refine blockA_here ?_ | refine blockA_other rfl ?_ | refine blockA_ret ?_ | refine blockA_normal ?_ | refine thenA_ret ?_ | refine thenA_exit ?_ | refine thenA_normal ?_)
                  simp (maxSteps := 4000000) only [go_sem]
                · rw [q4] at hRj c2
                  rw [Bool.true_and] at hRj
                  rw [Kitchen.cells] at c2
                  repeat (first | refine walkL_seq ?_ | refine walkL_skip ?_ | refine walkL_block ?_ | (refine walkL_region fun K hK => ?_; simp (maxSteps := 4000000) only [go_sem]; refine hK _ ?_; clear hK K) | refine walkL_nil ?_ | refine walkL_ret ?_ | refine walkL_exit ?_ | refine blockA_here ?_ | refine blockA_other rfl ?_ | refine blockA_ret ?_ | refine blockA_normal ?_ | refine thenA_ret ?_ | refine thenA_exit ?_ | refine thenA_normal ?_)
                  refine walkL_drawn (by kernel_rfl) (by kernel_rfl) fun K hK => ?_
                  simp (maxSteps := 4000000) only [go_sem, g1, g2, g3, g4, hni, hnjj, w]
                  refine ⟨_, .fn (hf := c1) (hd := rfl) (hr := .inl rfl), ?_⟩
                  simp (maxSteps := 4000000) only [go_sem, g1, g2, g3, g4, hni, hnjj]
                  refine ⟨_, .fn (hf := c2) (hd := rfl) (hr := .inl rfl), ?_⟩
                  simp (maxSteps := 4000000) only [go_sem]
                  refine ⟨by kernel_rfl, hK _ ?_⟩
                  clear hK K
                  repeat (first | refine walkL_true rfl ?_ | refine walkL_false rfl ?_ | refine walkL_seq ?_ | refine walkL_skip ?_ | refine walkL_block ?_ | (refine walkL_region fun K hK => ?_; simp (maxSteps := 4000000) only [go_sem, hwj]; refine hK _ ?_; clear hK K) | refine walkL_nil ?_ | refine walkL_ret ?_ | refine walkL_exit ?_ | refine blockA_here ?_ | refine blockA_other rfl ?_ | refine blockA_ret ?_ | refine blockA_normal ?_ | refine thenA_ret ?_ | refine thenA_exit ?_ | refine thenA_normal ?_)
                  refine ⟨rfl, j + 1, ?_, ⟨hltj, hRj⟩, by omega⟩
                  refine weak_of [] ?_ ?_ rfl rfl <;> simp [lessT, lessM, lessB, AV.less]
            · have he : j = r.length := by (have : ¬ j < r.length := by simpa using hb); omega
              subst he
              rw [List.drop_length, hrl, List.drop_length, rowOk, Bool.true_and] at hRj
              repeat (first | refine walkL_seq ?_ | refine walkL_skip ?_ | refine walkL_block ?_ | (refine walkL_region fun K hK => ?_; simp (maxSteps := 4000000) only [go_sem, hw]; refine hK _ ?_; clear hK K) | refine walkL_nil ?_ | refine walkL_ret ?_ | refine walkL_exit ?_ | refine blockA_here ?_ | refine blockA_other rfl ?_ | refine blockA_ret ?_ | refine blockA_normal ?_ | refine thenA_ret ?_ | refine thenA_exit ?_ | refine thenA_normal ?_)
              refine ⟨rfl, i + 1, ?_, ⟨hlt, hRj⟩, by omega⟩
              refine weak_of [] ?_ ?_ rfl rfl <;> simp [lessT, lessM, lessB, AV.less]
        · have hf : rowOk q r d = false := by
            cases hx : rowOk q r d with
            | false => rfl
            | true =>
              have := rowOk_len hx
              rw [this] at q2
              simp at q2
          rw [hf, Bool.false_and] at hRi
          rw [hRi]
          repeat (first | refine walkL_seq ?_ | refine walkL_skip ?_ | refine walkL_block ?_ | (refine walkL_region fun K hK => ?_; simp (maxSteps := 4000000) only [go_sem]; refine hK _ ?_; clear hK K) | refine walkL_nil ?_ | refine walkL_ret ?_ | refine walkL_exit ?_ | refine blockA_here ?_ | refine blockA_other rfl ?_ | refine blockA_ret ?_ | refine blockA_normal ?_ | refine thenA_ret ?_ | refine thenA_exit ?_ | refine thenA_normal ?_)
          refine walkL_drawn (by kernel_rfl) (by kernel_rfl) fun K hK => ?_
          simp (maxSteps := 4000000) only [go_sem, g1, g2, hni, q2]
          refine ⟨by kernel_rfl, hK _ ?_⟩
          clear hK K
          repeat (first | refine walkL_true rfl ?_ | refine walkL_false rfl ?_ | refine walkL_seq ?_ | refine walkL_skip ?_ | refine walkL_block ?_ | (refine walkL_region fun K hK => ?_; simp (maxSteps := 4000000) only [go_sem]; refine hK _ ?_; clear hK K) | refine walkL_nil ?_ | refine walkL_ret ?_ | refine walkL_exit ?_ | refine blockA_here ?_ | refine blockA_other rfl ?_ | refine blockA_ret ?_ | refine blockA_normal ?_ | refine thenA_ret ?_ | refine thenA_exit ?_ | refine thenA_normal ?_)
          simp (maxSteps := 4000000) only [go_sem]
      · have he : i = M.length := by (have : ¬ i < M.length := by simpa using hb); omega
        subst he
        rw [List.drop_length, hl, List.drop_length, shapedB] at hRi
        rw [hRi]
        repeat (first | refine walkL_seq ?_ | refine walkL_skip ?_ | refine walkL_block ?_ | (refine walkL_region fun K hK => ?_; simp (maxSteps := 4000000) only [go_sem]; refine hK _ ?_; clear hK K) | refine walkL_nil ?_ | refine walkL_ret ?_ | refine walkL_exit ?_ | refine blockA_here ?_ | refine blockA_other rfl ?_ | refine blockA_ret ?_ | refine blockA_normal ?_ | refine thenA_ret ?_ | refine thenA_exit ?_ | refine thenA_normal ?_)
        simp (maxSteps := 4000000) only [go_sem]
  · have hf : R = false := by
      rw [hR]
      cases hx : shapedB q M k.days with
      | false => rfl
      | true =>
        have := shaped_len hx
        rw [this] at q1
        simp at q1
    rw [hf]
    refine fn_walk 74 Tryz.call82 Tryz.func82 rfl (by decide) fun J => ?_
    simp (maxSteps := 4000000) only [go_sem, St.start, Tryz.ntmps82, Tryz.results82, Kitchen.cells]
    repeat (first | refine walkL_true rfl ?_ | refine walkL_false rfl ?_ | refine walkL_seq ?_ | refine walkL_skip ?_ | refine walkL_block ?_ | (refine walkL_region fun K hK => ?_; simp (maxSteps := 4000000) only [go_sem, q1, listRows_len]; refine hK _ ?_; clear hK K) | refine walkL_nil ?_ | refine walkL_ret ?_ | refine walkL_exit ?_ | refine blockA_here ?_ | refine blockA_other rfl ?_ | refine blockA_ret ?_ | refine blockA_normal ?_ | refine thenA_ret ?_ | refine thenA_exit ?_ | refine thenA_normal ?_)
    simp (maxSteps := 4000000) only [go_sem]
theorem zf40 (k : Kitchen) (M : List (List Int)) (hs : KitSmall k) (hM : M.length < 2 ^ 30) (hMr : ∀ r ∈ M, r.length < 2 ^ 30) : Fn Tryz.prog 40 [.agg k.cells, .sl (listRows M)] (.i (openK k M)) := by
  have h44 := zf44 k hs
  unfold openK
  by_cases h0 : kitE k = 0
  · have h82 := zf82 k (kit_good (kitE_zero.1 h0)) M hM hMr
    rw [if_pos h0]
    rw [h0] at h44
    rw [Kitchen.cells] at h44 h82
    cases q : shapedB (menuB k) M k.days
    · rw [q] at h82
      refine fn_walk 12 Tryz.call40 Tryz.func40 rfl (by decide) fun J => ?_
      simp (maxSteps := 4000000) only [go_sem, St.start, Tryz.ntmps40, Tryz.results40, Kitchen.cells]
      repeat (first | refine walkL_true rfl ?_ | refine walkL_false rfl ?_ | refine walkL_seq ?_ | refine walkL_skip ?_ | refine walkL_block ?_ | (refine walkL_region fun K hK => ?_; simp (maxSteps := 4000000) only [go_sem]; (repeat (first | (refine ⟨_, .lent (hf := h44) (hd := rfl) (hr := rfl), ?_⟩; simp (maxSteps := 4000000) only [go_sem]) | (refine ⟨_, .lent (hf := h82) (hd := rfl) (hr := rfl), ?_⟩; simp (maxSteps := 4000000) only [go_sem]) | (refine ⟨_, .given (hf := h44) (hd := rfl) (ha := rfl), ?_⟩; simp (maxSteps := 4000000) only [go_sem]) | (refine ⟨_, .given (hf := h82) (hd := rfl) (ha := rfl), ?_⟩; simp (maxSteps := 4000000) only [go_sem]))); refine hK _ ?_; clear hK K) | refine walkL_nil ?_ | refine walkL_ret ?_ | refine walkL_exit ?_ | refine blockA_here ?_ | refine blockA_other rfl ?_ | refine blockA_ret ?_ | refine blockA_normal ?_ | refine thenA_ret ?_ | refine thenA_exit ?_ | refine thenA_normal ?_)
      simp (maxSteps := 4000000) only [go_sem]
    · rw [q] at h82
      refine fn_walk 12 Tryz.call40 Tryz.func40 rfl (by decide) fun J => ?_
      simp (maxSteps := 4000000) only [go_sem, St.start, Tryz.ntmps40, Tryz.results40, Kitchen.cells]
      repeat (first | refine walkL_true rfl ?_ | refine walkL_false rfl ?_ | refine walkL_seq ?_ | refine walkL_skip ?_ | refine walkL_block ?_ | (refine walkL_region fun K hK => ?_; simp (maxSteps := 4000000) only [go_sem]; (repeat (first | (refine ⟨_, .lent (hf := h44) (hd := rfl) (hr := rfl), ?_⟩; simp (maxSteps := 4000000) only [go_sem]) | (refine ⟨_, .lent (hf := h82) (hd := rfl) (hr := rfl), ?_⟩; simp (maxSteps := 4000000) only [go_sem]) | (refine ⟨_, .given (hf := h44) (hd := rfl) (ha := rfl), ?_⟩; simp (maxSteps := 4000000) only [go_sem]) | (refine ⟨_, .given (hf := h82) (hd := rfl) (ha := rfl), ?_⟩; simp (maxSteps := 4000000) only [go_sem]))); refine hK _ ?_; clear hK K) | refine walkL_nil ?_ | refine walkL_ret ?_ | refine walkL_exit ?_ | refine blockA_here ?_ | refine blockA_other rfl ?_ | refine blockA_ret ?_ | refine blockA_normal ?_ | refine thenA_ret ?_ | refine thenA_exit ?_ | refine thenA_normal ?_)
      simp (maxSteps := 4000000) only [go_sem]
  · rw [if_neg h0]
    have e70 : kitE k = 70 := by unfold kitE at h0 ⊢; split <;> simp_all
    rw [e70] at h44 ⊢
    rw [Kitchen.cells] at h44
    refine fn_walk 12 Tryz.call40 Tryz.func40 rfl (by decide) fun J => ?_
    simp (maxSteps := 4000000) only [go_sem, St.start, Tryz.ntmps40, Tryz.results40, Kitchen.cells]
    repeat (first | refine walkL_true rfl ?_ | refine walkL_false rfl ?_ | refine walkL_seq ?_ | refine walkL_skip ?_ | refine walkL_block ?_ | (refine walkL_region fun K hK => ?_; simp (maxSteps := 4000000) only [go_sem]; (repeat (first | (refine ⟨_, .lent (hf := h44) (hd := rfl) (hr := rfl), ?_⟩; simp (maxSteps := 4000000) only [go_sem]) | (refine ⟨_, .given (hf := h44) (hd := rfl) (ha := rfl), ?_⟩; simp (maxSteps := 4000000) only [go_sem]))); refine hK _ ?_; clear hK K) | refine walkL_nil ?_ | refine walkL_ret ?_ | refine walkL_exit ?_ | refine blockA_here ?_ | refine blockA_other rfl ?_ | refine blockA_ret ?_ | refine blockA_normal ?_ | refine thenA_ret ?_ | refine thenA_exit ?_ | refine thenA_normal ?_)
    simp (maxSteps := 4000000) only [go_sem]
end Go.Ab
namespace Go.Ab
open Go.RowKit Go.Proofs
set_option maxHeartbeats 8000000
set_option maxRecDepth 20000
attribute [local irreducible] WalkL Walk
def longB (r : List Int) : Bool := decide ((r.length : Int) > 20)
def farRows (M : List (List Int)) : Bool := M.any longB || decide ((M.length : Int) > 20)
theorem zf38 (M : List (List Int)) (hM : M.length < 2 ^ 30) : Fn Tryz.prog 38 [.sl (listRows M)] (.bool (farRows M)) := by
  unfold farRows
  obtain ⟨R, hR⟩ : ∃ R, R = (M.any longB || decide ((M.length : Int) > 20)) := ⟨_, rfl⟩
  rw [← hR]
  refine fn_walk 19 Tryz.call38 Tryz.func38 rfl (by decide) fun J => ?_
  simp (maxSteps := 4000000) only [go_sem, St.start, Tryz.ntmps38, Tryz.results38]
  repeat (first | refine walkL_seq ?_ | refine walkL_skip ?_ | refine walkL_block ?_ | (refine walkL_region fun K hK => ?_; simp (maxSteps := 4000000) only [go_sem]; refine hK _ ?_; clear hK K) | refine walkL_nil ?_ | refine walkL_ret ?_ | refine walkL_exit ?_ | refine blockA_here ?_ | refine blockA_other rfl ?_ | refine blockA_ret ?_ | refine blockA_normal ?_ | refine thenA_ret ?_ | refine thenA_exit ?_ | refine thenA_normal ?_)
  refine walkL_loopS (fun (i : Nat) => [(3, .d (.i (i : Int)))]) (fun _ => []) (fun i => i ≤ M.length ∧ R = ((M.drop i).any longB || decide ((M.length : Int) > 20))) (fun i => M.length - i) 0 ?_ ⟨Nat.zero_le _, hR⟩ ?_
  · simp (maxSteps := 4000000) only [go_sem]
    refine weak_of [] ?_ ?_ rfl rfl <;> simp [lessT, lessM, lessB, AV.less]
  · rintro i ⟨hi, hall⟩
    simp (maxSteps := 4000000) only [go_sem]
    repeat (first | refine walkL_seq ?_ | refine walkL_skip ?_ | refine walkL_block ?_ | (refine walkL_region fun K hK => ?_; simp (maxSteps := 4000000) only [go_sem, listRows_len]; refine hK _ ?_; clear hK K) | refine walkL_nil ?_ | refine walkL_ret ?_ | refine walkL_exit ?_ | refine blockA_here ?_ | refine blockA_other rfl ?_ | refine blockA_ret ?_ | refine blockA_normal ?_ | refine thenA_ret ?_ | refine thenA_exit ?_ | refine thenA_normal ?_)
    refine walkL_cond rfl (fun hb => ?_) (fun hb => ?_)
    · have hlt : i < M.length := by simpa using hb
      have hw : IntKind.i64.wrap ((i : Int) + 1) = ((i + 1 : Nat) : Int) := by rw [wr_small (by omega)]; simp
      obtain ⟨r, hr⟩ : ∃ r, M[i]? = some r := ⟨_, List.getElem?_eq_getElem hlt⟩
      have g1 := listRows_at hr
      have hni : ¬ ((i : Int) < 0) := by omega
      rw [drop_get hr, List.any_cons] at hall
      cases q : longB r
      · rw [q, Bool.false_or] at hall
        rw [longB] at q
        repeat (first | refine walkL_true rfl ?_ | refine walkL_false rfl ?_ | refine walkL_seq ?_ | refine walkL_skip ?_ | refine walkL_block ?_ | (refine walkL_region fun K hK => ?_; simp (maxSteps := 4000000) only [go_sem, g1, hni, q, hw]; refine hK _ ?_; clear hK K) | refine walkL_nil ?_ | refine walkL_ret ?_ | refine walkL_exit ?_ | refine blockA_here ?_ | refine blockA_other rfl ?_ | refine blockA_ret ?_ | refine blockA_normal ?_ | refine thenA_ret ?_ | refine thenA_exit ?_ | refine thenA_normal ?_)
        refine ⟨rfl, i + 1, ?_, ⟨hlt, hall⟩, by omega⟩
        refine weak_of [] ?_ ?_ rfl rfl <;> simp [lessT, lessM, lessB, AV.less]
      · rw [q, Bool.true_or, Bool.true_or] at hall
        rw [longB] at q
        subst hall
        repeat (first | refine walkL_true rfl ?_ | refine walkL_false rfl ?_ | refine walkL_seq ?_ | refine walkL_skip ?_ | refine walkL_block ?_ | (refine walkL_region fun K hK => ?_; simp (maxSteps := 4000000) only [go_sem, g1, hni, q]; refine hK _ ?_; clear hK K) | refine walkL_nil ?_ | refine walkL_ret ?_ | refine walkL_exit ?_ | refine blockA_here ?_ | refine blockA_other rfl ?_ | refine blockA_ret ?_ | refine blockA_normal ?_ | refine thenA_ret ?_ | refine thenA_exit ?_ | refine thenA_normal ?_)
        simp (maxSteps := 4000000) only [go_sem]
    · have he : i = M.length := by (have : ¬ i < M.length := by simpa using hb); omega
      subst he
      rw [List.drop_length, List.any_nil, Bool.false_or] at hall
      subst hall
      repeat (first | refine walkL_seq ?_ | refine walkL_skip ?_ | refine walkL_block ?_ | (refine walkL_region fun K hK => ?_; simp (maxSteps := 4000000) only [go_sem, listRows_len]; refine hK _ ?_; clear hK K) | refine walkL_nil ?_ | refine walkL_ret ?_ | refine walkL_exit ?_ | refine blockA_here ?_ | refine blockA_other rfl ?_ | refine blockA_ret ?_ | refine blockA_normal ?_ | refine thenA_ret ?_ | refine thenA_exit ?_ | refine thenA_normal ?_)
      simp (maxSteps := 4000000) only [go_sem]
def longD (d : List Diners) : Bool := decide ((d.length : Int) > 20)
def longN (d : Dish) : Bool := decide ((d.needs.length : Int) > 20)
def maxTo (l : List (List Diners)) : Nat → Int
  | 0 => 0
  | i + 1 => max (maxTo l i) ((l.getD i []).length : Int)
def farK1 (k : Kitchen) : Bool := decide ((k.allerg.length : Int) > 20) || (decide ((k.batches.length : Int) > 20) || (decide ((k.dishes.length : Int) > 20) || decide ((k.days.length : Int) > 20)))
def farK2 (k : Kitchen) : Bool := (kitE k == 0) && (decide ((k.dishes.length : Int) > 3) || (decide ((k.days.length : Int) > 3) || decide (maxTo k.days k.days.length > 2)))
def far7 (k : Kitchen) : Bool := farK1 k || (k.days.any longD || (k.dishes.any longN || farK2 k))
theorem zf37 (k : Kitchen) (hs : KitSmall k) : Fn Tryz.prog 37 [.agg k.cells] (.bool (far7 k)) := by
  have h44 := zf44 k hs
  have a1 := hs.allerg
  have a2 := hs.batches
  have a3 := hs.dishes
  have a5 := hs.days
  obtain ⟨R, hR⟩ : ∃ R, R = far7 k := ⟨_, rfl⟩
  rw [← hR]
  rw [far7] at hR
  rw [Kitchen.cells] at h44
  refine fn_walk 84 Tryz.call37 Tryz.func37 rfl (by decide) fun J => ?_
  simp (maxSteps := 4000000) only [go_sem, St.start, Tryz.ntmps37, Tryz.results37, Kitchen.cells]
  repeat (first | refine walkL_seq ?_ | refine walkL_skip ?_ | refine walkL_block ?_ | (refine walkL_region fun K hK => ?_; simp (maxSteps := 4000000) only [go_sem]; refine hK _ ?_; clear hK K) | refine walkL_nil ?_ | refine walkL_ret ?_ | refine walkL_exit ?_ | refine blockA_here ?_ | refine blockA_other rfl ?_ | refine blockA_ret ?_ | refine blockA_normal ?_ | refine thenA_ret ?_ | refine thenA_exit ?_ | refine thenA_normal ?_)
  refine walkL_meetS [(27, .d (.bool (farK1 k)))] [] ?_ ?_
  · refine walkL_region fun K hK => ?_
    simp (maxSteps := 4000000) only [go_sem]
    by_cases ho0 : (decide ((k.allerg.length : Int) > 20)) = true
    · simp (maxSteps := 4000000) only [go_sem, ho0]
      refine hK _ ?_
      clear hK K
      refine walkL_nil ?_
      refine thenA_normal ?_
      refine ⟨rfl, ?_⟩
      rw [show (farK1 k) = (true) from by simp [farK1, ho0]]
      simp (maxSteps := 4000000) only [go_sem]
      refine weak_of [] ?_ ?_ rfl rfl <;> simp [lessT, lessM, lessB, AV.less]
    · simp (maxSteps := 4000000) only [go_sem, ho0]
      by_cases ho1 : (decide ((k.batches.length : Int) > 20)) = true
      · simp (maxSteps := 4000000) only [go_sem, ho0, ho1]
        refine hK _ ?_
        clear hK K
        refine walkL_nil ?_
        refine thenA_normal ?_
        refine ⟨rfl, ?_⟩
        rw [show (farK1 k) = (true) from by simp [farK1, ho0, ho1]]
        simp (maxSteps := 4000000) only [go_sem]
        refine weak_of [] ?_ ?_ rfl rfl <;> simp [lessT, lessM, lessB, AV.less]
      · simp (maxSteps := 4000000) only [go_sem, ho0, ho1]
        by_cases ho2 : (decide ((k.dishes.length : Int) > 20)) = true
        · simp (maxSteps := 4000000) only [go_sem, ho0, ho1, ho2]
          refine hK _ ?_
          clear hK K
          refine walkL_nil ?_
          refine thenA_normal ?_
          refine ⟨rfl, ?_⟩
          rw [show (farK1 k) = (true) from by simp [farK1, ho0, ho1, ho2]]
          simp (maxSteps := 4000000) only [go_sem]
          refine weak_of [] ?_ ?_ rfl rfl <;> simp [lessT, lessM, lessB, AV.less]
        · simp (maxSteps := 4000000) only [go_sem, ho0, ho1, ho2]
          refine hK _ ?_
          clear hK K
          refine walkL_nil ?_
          refine thenA_normal ?_
          refine ⟨rfl, ?_⟩
          rw [show (farK1 k) = (decide ((k.days.length : Int) > 20)) from by simp [farK1, ho0, ho1, ho2]]
          simp (maxSteps := 4000000) only [go_sem]
          refine weak_of [] ?_ ?_ rfl rfl <;> simp [lessT, lessM, lessB, AV.less]
  simp (maxSteps := 4000000) only [go_sem]
  repeat (first | refine walkL_seq ?_ | refine walkL_skip ?_ | refine walkL_block ?_ | (refine walkL_region fun K hK => ?_; simp (maxSteps := 4000000) only [go_sem]; refine hK _ ?_; clear hK K) | refine walkL_nil ?_ | refine walkL_ret ?_ | refine walkL_exit ?_ | refine blockA_here ?_ | refine blockA_other rfl ?_ | refine blockA_ret ?_ | refine blockA_normal ?_ | refine thenA_ret ?_ | refine thenA_exit ?_ | refine thenA_normal ?_)
  refine walkL_cond rfl (fun hc => ?_) (fun hc => ?_)
  · rw [hc, Bool.true_or] at hR
    subst hR
    rw [hc]
    repeat (first | refine walkL_seq ?_ | refine walkL_skip ?_ | refine walkL_block ?_ | (refine walkL_region fun K hK => ?_; simp (maxSteps := 4000000) only [go_sem]; refine hK _ ?_; clear hK K) | refine walkL_nil ?_ | refine walkL_ret ?_ | refine walkL_exit ?_ | refine blockA_here ?_ | refine blockA_other rfl ?_ | refine blockA_ret ?_ | refine blockA_normal ?_ | refine thenA_ret ?_ | refine thenA_exit ?_ | refine thenA_normal ?_)
    simp (maxSteps := 4000000) only [go_sem, if_true]
  · rw [hc, Bool.false_or] at hR
    rw [hc]
    repeat (first | refine walkL_seq ?_ | refine walkL_skip ?_ | refine walkL_block ?_ | (refine walkL_region fun K hK => ?_; simp (maxSteps := 4000000) only [go_sem]; refine hK _ ?_; clear hK K) | refine walkL_nil ?_ | refine walkL_ret ?_ | refine walkL_exit ?_ | refine blockA_here ?_ | refine blockA_other rfl ?_ | refine blockA_ret ?_ | refine blockA_normal ?_ | refine thenA_ret ?_ | refine thenA_exit ?_ | refine thenA_normal ?_)
    refine walkL_loopS (fun (i : Nat) => [(4, .d (.i (i : Int))), (3, .d (.i (maxTo k.days i)))]) (fun _ => []) (fun i => i ≤ k.days.length ∧ R = ((k.days.drop i).any longD || (k.dishes.any longN || farK2 k))) (fun i => k.days.length - i) 0 ?_ ⟨Nat.zero_le _, hR⟩ ?_
    · simp (maxSteps := 4000000) only [go_sem, maxTo]
      refine weak_of [] ?_ ?_ rfl rfl <;> simp [lessT, lessM, lessB, AV.less]
    · rintro i ⟨hi, hall⟩
      have hmx : max (maxTo k.days i) ((k.days.getD i []).length : Int) = maxTo k.days (i + 1) := rfl
      obtain ⟨mi, hmi⟩ : ∃ m, m = maxTo k.days i := ⟨_, rfl⟩
      rw [← hmi] at hmx
      simp (maxSteps := 4000000) only [go_sem, ← hmi]
      repeat (first | refine walkL_seq ?_ | refine walkL_skip ?_ | refine walkL_block ?_ | (refine walkL_region fun K hK => ?_; simp (maxSteps := 4000000) only [go_sem]; refine hK _ ?_; clear hK K) | refine walkL_nil ?_ | refine walkL_ret ?_ | refine walkL_exit ?_ | refine blockA_here ?_ | refine blockA_other rfl ?_ | refine blockA_ret ?_ | refine blockA_normal ?_ | refine thenA_ret ?_ | refine thenA_exit ?_ | refine thenA_normal ?_)
      refine walkL_cond rfl (fun hb => ?_) (fun hb => ?_)
      · have hlt : i < k.days.length := by simpa using hb
        have hw : IntKind.i64.wrap ((i : Int) + 1) = ((i + 1 : Nat) : Int) := by rw [wr_small (by omega)]; simp
        obtain ⟨r, hr⟩ : ∃ r, k.days[i]? = some r := ⟨_, List.getElem?_eq_getElem hlt⟩
        have g1 := dayRows_at hr
        have hni : ¬ ((i : Int) < 0) := by omega
        rw [List.getD, hr, Option.getD_some] at hmx
        rw [drop_get hr, List.any_cons] at hall
        cases q : longD r
        · rw [q, Bool.false_or] at hall
          rw [longD] at q
          repeat (first | refine walkL_true rfl ?_ | refine walkL_false rfl ?_ | refine walkL_seq ?_ | refine walkL_skip ?_ | refine walkL_block ?_ | (refine walkL_region fun K hK => ?_; simp (maxSteps := 4000000) only [go_sem, g1, hni, q, hw, hmx]; refine hK _ ?_; clear hK K) | refine walkL_nil ?_ | refine walkL_ret ?_ | refine walkL_exit ?_ | refine blockA_here ?_ | refine blockA_other rfl ?_ | refine blockA_ret ?_ | refine blockA_normal ?_ | refine thenA_ret ?_ | refine thenA_exit ?_ | refine thenA_normal ?_)
          refine ⟨rfl, i + 1, ?_, ⟨hlt, hall⟩, by omega⟩
          refine weak_of [] ?_ ?_ rfl rfl <;> simp [lessT, lessM, lessB, AV.less]
          all_goals first | done | rfl | trace_state
        · rw [q, Bool.true_or] at hall
          rw [longD] at q
          subst hall
          repeat (first | refine walkL_true rfl ?_ | refine walkL_false rfl ?_ | refine walkL_seq ?_ | refine walkL_skip ?_ | refine walkL_block ?_ | (refine walkL_region fun K hK => ?_; simp (maxSteps := 4000000) only [go_sem, g1, hni, q]; refine hK _ ?_; clear hK K) | refine walkL_nil ?_ | refine walkL_ret ?_ | refine walkL_exit ?_ | refine blockA_here ?_ | refine blockA_other rfl ?_ | refine blockA_ret ?_ | refine blockA_normal ?_ | refine thenA_ret ?_ | refine thenA_exit ?_ | refine thenA_normal ?_)
          simp (maxSteps := 4000000) only [go_sem]
      · have he : i = k.days.length := by (have : ¬ i < k.days.length := by simpa using hb); omega
        subst he
        rw [List.drop_length, List.any_nil, Bool.false_or] at hall
        repeat (first | refine walkL_seq ?_ | refine walkL_skip ?_ | refine walkL_block ?_ | (refine walkL_region fun K hK => ?_; simp (maxSteps := 4000000) only [go_sem]; refine hK _ ?_; clear hK K) | refine walkL_nil ?_ | refine walkL_ret ?_ | refine walkL_exit ?_ | refine blockA_here ?_ | refine blockA_other rfl ?_ | refine blockA_ret ?_ | refine blockA_normal ?_ | refine thenA_ret ?_ | refine thenA_exit ?_ | refine thenA_normal ?_)
        refine walkL_loopS (fun (j : Nat) => [(5, .d (.i (j : Int)))]) (fun _ => []) (fun j => j ≤ k.dishes.length ∧ R = ((k.dishes.drop j).any longN || farK2 k)) (fun j => k.dishes.length - j) 0 ?_ ⟨Nat.zero_le _, hall⟩ ?_
        · simp (maxSteps := 4000000) only [go_sem]
          refine weak_of [] ?_ ?_ rfl rfl <;> simp [lessT, lessM, lessB, AV.less]
        · rintro j ⟨hj, hallj⟩
          simp (maxSteps := 4000000) only [go_sem]
          repeat (first | refine walkL_seq ?_ | refine walkL_skip ?_ | refine walkL_block ?_ | (refine walkL_region fun K hK => ?_; simp (maxSteps := 4000000) only [go_sem]; refine hK _ ?_; clear hK K) | refine walkL_nil ?_ | refine walkL_ret ?_ | refine walkL_exit ?_ | refine blockA_here ?_ | refine blockA_other rfl ?_ | refine blockA_ret ?_ | refine blockA_normal ?_ | refine thenA_ret ?_ | refine thenA_exit ?_ | refine thenA_normal ?_)
          refine walkL_cond rfl (fun hb => ?_) (fun hb => ?_)
          · have hlt : j < k.dishes.length := by simpa using hb
            have hw : IntKind.i64.wrap ((j : Int) + 1) = ((j + 1 : Nat) : Int) := by rw [wr_small (by omega)]; simp
            obtain ⟨r, hr⟩ : ∃ r, k.dishes[j]? = some r := ⟨_, List.getElem?_eq_getElem hlt⟩
            have g1 := dishRows_at hr
            rw [Dish.row] at g1
            have hni : ¬ ((j : Int) < 0) := by omega
            rw [drop_get hr, List.any_cons] at hallj
            cases q : longN r
            · rw [q, Bool.false_or] at hallj
              rw [longN] at q
              repeat (first | refine walkL_true rfl ?_ | refine walkL_false rfl ?_ | refine walkL_seq ?_ | refine walkL_skip ?_ | refine walkL_block ?_ | (refine walkL_region fun K hK => ?_; simp (maxSteps := 4000000) only [go_sem, g1, hni, q, hw]; refine hK _ ?_; clear hK K) | refine walkL_nil ?_ | refine walkL_ret ?_ | refine walkL_exit ?_ | refine blockA_here ?_ | refine blockA_other rfl ?_ | refine blockA_ret ?_ | refine blockA_normal ?_ | refine thenA_ret ?_ | refine thenA_exit ?_ | refine thenA_normal ?_)
              refine ⟨rfl, j + 1, ?_, ⟨hlt, hallj⟩, by omega⟩
              refine weak_of [] ?_ ?_ rfl rfl <;> simp [lessT, lessM, lessB, AV.less]
            · rw [q, Bool.true_or] at hallj
              rw [longN] at q
              subst hallj
              repeat (first | refine walkL_true rfl ?_ | refine walkL_false rfl ?_ | refine walkL_seq ?_ | refine walkL_skip ?_ | refine walkL_block ?_ | (refine walkL_region fun K hK => ?_; simp (maxSteps := 4000000) only [go_sem, g1, hni, q]; refine hK _ ?_; clear hK K) | refine walkL_nil ?_ | refine walkL_ret ?_ | refine walkL_exit ?_ | refine blockA_here ?_ | refine blockA_other rfl ?_ | refine blockA_ret ?_ | refine blockA_normal ?_ | refine thenA_ret ?_ | refine thenA_exit ?_ | refine thenA_normal ?_)
              simp (maxSteps := 4000000) only [go_sem]
          · have he : j = k.dishes.length := by (have : ¬ j < k.dishes.length := by simpa using hb); omega
            subst he
            rw [List.drop_length, List.any_nil, Bool.false_or, farK2, ← hmi] at hallj
            obtain ⟨e, he⟩ : ∃ e, e = kitE k := ⟨_, rfl⟩
            rw [← he] at h44 hallj
            cases q0 : (e == 0)
            · rw [q0, Bool.false_and] at hallj
              subst hallj
              repeat (first | refine walkL_true rfl ?_ | refine walkL_false rfl ?_ | refine walkL_seq ?_ | refine walkL_skip ?_ | refine walkL_block ?_ | (refine walkL_region fun K hK => ?_; simp (maxSteps := 4000000) only [go_sem, q0]; (repeat (first | (refine ⟨_, .lent (hf := h44) (hd := rfl) (hr := rfl), ?_⟩; simp (maxSteps := 4000000) only [go_sem, q0]) | (refine ⟨_, .given (hf := h44) (hd := rfl) (ha := rfl), ?_⟩; simp (maxSteps := 4000000) only [go_sem, q0]))); refine hK _ ?_; clear hK K) | refine walkL_nil ?_ | refine walkL_ret ?_ | refine walkL_exit ?_ | refine blockA_here ?_ | refine blockA_other rfl ?_ | refine blockA_ret ?_ | refine blockA_normal ?_ | refine thenA_ret ?_ | refine thenA_exit ?_ | refine thenA_normal ?_)
              simp (maxSteps := 4000000) only [go_sem]
            · rw [q0, Bool.true_and] at hallj
              cases q1 : decide ((k.dishes.length : Int) > 3)
              · rw [q1, Bool.false_or] at hallj
                cases q2 : decide ((k.days.length : Int) > 3)
                · rw [q2, Bool.false_or] at hallj
                  subst hallj
                  repeat (first | refine walkL_true rfl ?_ | refine walkL_false rfl ?_ | refine walkL_seq ?_ | refine walkL_skip ?_ | refine walkL_block ?_ | (refine walkL_region fun K hK => ?_; simp (maxSteps := 4000000) only [go_sem, q0, q1, q2]; (repeat (first | (refine ⟨_, .lent (hf := h44) (hd := rfl) (hr := rfl), ?_⟩; simp (maxSteps := 4000000) only [go_sem, q0, q1, q2]) | (refine ⟨_, .given (hf := h44) (hd := rfl) (ha := rfl), ?_⟩; simp (maxSteps := 4000000) only [go_sem, q0, q1, q2]))); refine hK _ ?_; clear hK K) | refine walkL_nil ?_ | refine walkL_ret ?_ | refine walkL_exit ?_ | refine blockA_here ?_ | refine blockA_other rfl ?_ | refine blockA_ret ?_ | refine blockA_normal ?_ | refine thenA_ret ?_ | refine thenA_exit ?_ | refine thenA_normal ?_)
                  simp (maxSteps := 4000000) only [go_sem]
                · rw [q2, Bool.true_or] at hallj
                  subst hallj
                  repeat (first | refine walkL_true rfl ?_ | refine walkL_false rfl ?_ | refine walkL_seq ?_ | refine walkL_skip ?_ | refine walkL_block ?_ | (refine walkL_region fun K hK => ?_; simp (maxSteps := 4000000) only [go_sem, q0, q1, q2]; (repeat (first | (refine ⟨_, .lent (hf := h44) (hd := rfl) (hr := rfl), ?_⟩; simp (maxSteps := 4000000) only [go_sem, q0, q1, q2]) | (refine ⟨_, .given (hf := h44) (hd := rfl) (ha := rfl), ?_⟩; simp (maxSteps := 4000000) only [go_sem, q0, q1, q2]))); refine hK _ ?_; clear hK K) | refine walkL_nil ?_ | refine walkL_ret ?_ | refine walkL_exit ?_ | refine blockA_here ?_ | refine blockA_other rfl ?_ | refine blockA_ret ?_ | refine blockA_normal ?_ | refine thenA_ret ?_ | refine thenA_exit ?_ | refine thenA_normal ?_)
                  simp (maxSteps := 4000000) only [go_sem]
              · rw [q1, Bool.true_or] at hallj
                subst hallj
                repeat (first | refine walkL_true rfl ?_ | refine walkL_false rfl ?_ | refine walkL_seq ?_ | refine walkL_skip ?_ | refine walkL_block ?_ | (refine walkL_region fun K hK => ?_; simp (maxSteps := 4000000) only [go_sem, q0, q1]; (repeat (first | (refine ⟨_, .lent (hf := h44) (hd := rfl) (hr := rfl), ?_⟩; simp (maxSteps := 4000000) only [go_sem, q0, q1]) | (refine ⟨_, .given (hf := h44) (hd := rfl) (ha := rfl), ?_⟩; simp (maxSteps := 4000000) only [go_sem, q0, q1]))); refine hK _ ?_; clear hK K) | refine walkL_nil ?_ | refine walkL_ret ?_ | refine walkL_exit ?_ | refine blockA_here ?_ | refine blockA_other rfl ?_ | refine blockA_ret ?_ | refine blockA_normal ?_ | refine thenA_ret ?_ | refine thenA_exit ?_ | refine thenA_normal ?_)
                simp (maxSteps := 4000000) only [go_sem]
end Go.Ab
namespace Go.Ab
open Go.RowKit Go.Proofs
set_option maxHeartbeats 8000000
set_option maxRecDepth 20000
attribute [local irreducible] WalkL Walk
def longS (l : List Hour) : Bool := decide ((l.length : Int) > 50)
def farS1 (s : Supply) : Bool := decide ((s.carr.length : Int) > 20) || (decide ((s.seen.length : Int) > 22) || decide ((s.scen.length : Int) > 8))
def farSup (s : Supply) : Bool := farS1 s || (s.scen.any longS || ((foreF s.scen != 0) && far6 s))
theorem zf39 (s : Supply) (hs : SuppSmall s) : Fn Tryz.prog 39 [.agg s.cells] (.bool (farSup s)) := by
  have h81 := zf81 s.scen hs.fore
  have h11 := zf11 s hs
  have hsc := hs.fore.1
  obtain ⟨R, hR⟩ : ∃ R, R = farSup s := ⟨_, rfl⟩
  rw [← hR]
  rw [farSup] at hR
  rw [Supply.cells] at h11
  refine fn_walk 46 Tryz.call39 Tryz.func39 rfl (by decide) fun J => ?_
  simp (maxSteps := 4000000) only [go_sem, St.start, Tryz.ntmps39, Tryz.results39, Supply.cells]
  repeat (first | refine walkL_seq ?_ | refine walkL_skip ?_ | refine walkL_block ?_ | (refine walkL_region fun K hK => ?_; simp (maxSteps := 4000000) only [go_sem]; refine hK _ ?_; clear hK K) | refine walkL_nil ?_ | refine walkL_ret ?_ | refine walkL_exit ?_ | refine blockA_here ?_ | refine blockA_other rfl ?_ | refine blockA_ret ?_ | refine blockA_normal ?_ | refine thenA_ret ?_ | refine thenA_exit ?_ | refine thenA_normal ?_)
  refine walkL_meetS [(20, .d (.bool (farS1 s)))] [] ?_ ?_
  · refine walkL_region fun K hK => ?_
    simp (maxSteps := 4000000) only [go_sem, carrRows_len, sightRows_len, scenRows_len]
    by_cases ho0 : (decide ((s.carr.length : Int) > 20)) = true
    · simp (maxSteps := 4000000) only [go_sem, carrRows_len, sightRows_len, scenRows_len, ho0]
      refine hK _ ?_
      clear hK K
      refine walkL_nil ?_
      refine thenA_normal ?_
      refine ⟨rfl, ?_⟩
      rw [show (farS1 s) = (true) from by simp [farS1, ho0]]
      simp (maxSteps := 4000000) only [go_sem]
      refine weak_of [] ?_ ?_ rfl rfl <;> simp [lessT, lessM, lessB, AV.less]
    · simp (maxSteps := 4000000) only [go_sem, carrRows_len, sightRows_len, scenRows_len, ho0]
      by_cases ho1 : (decide ((s.seen.length : Int) > 22)) = true
      · simp (maxSteps := 4000000) only [go_sem, carrRows_len, sightRows_len, scenRows_len, ho0, ho1]
        refine hK _ ?_
        clear hK K
        refine walkL_nil ?_
        refine thenA_normal ?_
        refine ⟨rfl, ?_⟩
        rw [show (farS1 s) = (true) from by simp [farS1, ho0, ho1]]
        simp (maxSteps := 4000000) only [go_sem]
        refine weak_of [] ?_ ?_ rfl rfl <;> simp [lessT, lessM, lessB, AV.less]
      · simp (maxSteps := 4000000) only [go_sem, carrRows_len, sightRows_len, scenRows_len, ho0, ho1]
        refine hK _ ?_
        clear hK K
        refine walkL_nil ?_
        refine thenA_normal ?_
        refine ⟨rfl, ?_⟩
        rw [show (farS1 s) = (decide ((s.scen.length : Int) > 8)) from by simp [farS1, ho0, ho1]]
        simp (maxSteps := 4000000) only [go_sem]
        refine weak_of [] ?_ ?_ rfl rfl <;> simp [lessT, lessM, lessB, AV.less]
  simp (maxSteps := 4000000) only [go_sem]
  repeat (first | refine walkL_seq ?_ | refine walkL_skip ?_ | refine walkL_block ?_ | (refine walkL_region fun K hK => ?_; simp (maxSteps := 4000000) only [go_sem]; refine hK _ ?_; clear hK K) | refine walkL_nil ?_ | refine walkL_ret ?_ | refine walkL_exit ?_ | refine blockA_here ?_ | refine blockA_other rfl ?_ | refine blockA_ret ?_ | refine blockA_normal ?_ | refine thenA_ret ?_ | refine thenA_exit ?_ | refine thenA_normal ?_)
  refine walkL_cond rfl (fun hc => ?_) (fun hc => ?_)
  · rw [hc, Bool.true_or] at hR
    subst hR
    rw [hc]
    repeat (first | refine walkL_seq ?_ | refine walkL_skip ?_ | refine walkL_block ?_ | (refine walkL_region fun K hK => ?_; simp (maxSteps := 4000000) only [go_sem]; refine hK _ ?_; clear hK K) | refine walkL_nil ?_ | refine walkL_ret ?_ | refine walkL_exit ?_ | refine blockA_here ?_ | refine blockA_other rfl ?_ | refine blockA_ret ?_ | refine blockA_normal ?_ | refine thenA_ret ?_ | refine thenA_exit ?_ | refine thenA_normal ?_)
    simp (maxSteps := 4000000) only [go_sem, if_true]
  · rw [hc, Bool.false_or] at hR
    rw [hc]
    repeat (first | refine walkL_seq ?_ | refine walkL_skip ?_ | refine walkL_block ?_ | (refine walkL_region fun K hK => ?_; simp (maxSteps := 4000000) only [go_sem]; refine hK _ ?_; clear hK K) | refine walkL_nil ?_ | refine walkL_ret ?_ | refine walkL_exit ?_ | refine blockA_here ?_ | refine blockA_other rfl ?_ | refine blockA_ret ?_ | refine blockA_normal ?_ | refine thenA_ret ?_ | refine thenA_exit ?_ | refine thenA_normal ?_)
    refine walkL_loopS (fun (i : Nat) => [(3, .d (.i (i : Int)))]) (fun _ => []) (fun i => i ≤ s.scen.length ∧ R = ((s.scen.drop i).any longS || ((foreF s.scen != 0) && far6 s))) (fun i => s.scen.length - i) 0 ?_ ⟨Nat.zero_le _, hR⟩ ?_
    · simp (maxSteps := 4000000) only [go_sem]
      refine weak_of [] ?_ ?_ rfl rfl <;> simp [lessT, lessM, lessB, AV.less]
    · rintro i ⟨hi, hall⟩
      simp (maxSteps := 4000000) only [go_sem]
      repeat (first | refine walkL_seq ?_ | refine walkL_skip ?_ | refine walkL_block ?_ | (refine walkL_region fun K hK => ?_; simp (maxSteps := 4000000) only [go_sem, scenRows_len]; refine hK _ ?_; clear hK K) | refine walkL_nil ?_ | refine walkL_ret ?_ | refine walkL_exit ?_ | refine blockA_here ?_ | refine blockA_other rfl ?_ | refine blockA_ret ?_ | refine blockA_normal ?_ | refine thenA_ret ?_ | refine thenA_exit ?_ | refine thenA_normal ?_)
      refine walkL_cond rfl (fun hb => ?_) (fun hb => ?_)
      · have hlt : i < s.scen.length := by simpa using hb
        have hw : IntKind.i64.wrap ((i : Int) + 1) = ((i + 1 : Nat) : Int) := by rw [wr_small (by omega)]; simp
        obtain ⟨r, hr⟩ : ∃ r, s.scen[i]? = some r := ⟨_, List.getElem?_eq_getElem hlt⟩
        have g1 : (scenRows s.scen)[i]? = some [.sl (hourRows r)] := by simp [scenRows, hr]
        have hni : ¬ ((i : Int) < 0) := by omega
        have hll : (hourRows r).length = r.length := by simp [hourRows]
        rw [drop_get hr, List.any_cons] at hall
        cases q : longS r
        · rw [q, Bool.false_or] at hall
          rw [longS] at q
          repeat (first | refine walkL_true rfl ?_ | refine walkL_false rfl ?_ | refine walkL_seq ?_ | refine walkL_skip ?_ | refine walkL_block ?_ | (refine walkL_region fun K hK => ?_; simp (maxSteps := 4000000) only [go_sem, g1, hni, hll, q, hw]; refine hK _ ?_; clear hK K) | refine walkL_nil ?_ | refine walkL_ret ?_ | refine walkL_exit ?_ | refine blockA_here ?_ | refine blockA_other rfl ?_ | refine blockA_ret ?_ | refine blockA_normal ?_ | refine thenA_ret ?_ | refine thenA_exit ?_ | refine thenA_normal ?_)
          refine ⟨rfl, i + 1, ?_, ⟨hlt, hall⟩, by omega⟩
          refine weak_of [] ?_ ?_ rfl rfl <;> simp [lessT, lessM, lessB, AV.less]
        · rw [q, Bool.true_or] at hall
          rw [longS] at q
          subst hall
          repeat (first | refine walkL_true rfl ?_ | refine walkL_false rfl ?_ | refine walkL_seq ?_ | refine walkL_skip ?_ | refine walkL_block ?_ | (refine walkL_region fun K hK => ?_; simp (maxSteps := 4000000) only [go_sem, g1, hni, hll, q]; refine hK _ ?_; clear hK K) | refine walkL_nil ?_ | refine walkL_ret ?_ | refine walkL_exit ?_ | refine blockA_here ?_ | refine blockA_other rfl ?_ | refine blockA_ret ?_ | refine blockA_normal ?_ | refine thenA_ret ?_ | refine thenA_exit ?_ | refine thenA_normal ?_)
          simp (maxSteps := 4000000) only [go_sem]
      · have he : i = s.scen.length := by (have : ¬ i < s.scen.length := by simpa using hb); omega
        subst he
        rw [List.drop_length, List.any_nil, Bool.false_or] at hall
        cases q0 : (foreF s.scen != 0)
        · rw [q0, Bool.false_and] at hall
          subst hall
          repeat (first | refine walkL_true rfl ?_ | refine walkL_false rfl ?_ | refine walkL_seq ?_ | refine walkL_skip ?_ | refine walkL_block ?_ | (refine walkL_region fun K hK => ?_; simp (maxSteps := 4000000) only [go_sem, q0]; (repeat (first | (refine ⟨_, .lent (hf := h81) (hd := rfl) (hr := rfl), ?_⟩; simp (maxSteps := 4000000) only [go_sem, q0]) | (refine ⟨_, .given (hf := h81) (hd := rfl) (ha := rfl), ?_⟩; simp (maxSteps := 4000000) only [go_sem, q0]))); refine hK _ ?_; clear hK K) | refine walkL_nil ?_ | refine walkL_ret ?_ | refine walkL_exit ?_ | refine blockA_here ?_ | refine blockA_other rfl ?_ | refine blockA_ret ?_ | refine blockA_normal ?_ | refine thenA_ret ?_ | refine thenA_exit ?_ | refine thenA_normal ?_)
          simp (maxSteps := 4000000) only [go_sem]
        · rw [q0, Bool.true_and] at hall
          subst hall
          repeat (first | refine walkL_true rfl ?_ | refine walkL_false rfl ?_ | refine walkL_seq ?_ | refine walkL_skip ?_ | refine walkL_block ?_ | (refine walkL_region fun K hK => ?_; simp (maxSteps := 4000000) only [go_sem, q0]; (repeat (first | (refine ⟨_, .lent (hf := h81) (hd := rfl) (hr := rfl), ?_⟩; simp (maxSteps := 4000000) only [go_sem, q0]) | (refine ⟨_, .lent (hf := h11) (hd := rfl) (hr := rfl), ?_⟩; simp (maxSteps := 4000000) only [go_sem, q0]) | (refine ⟨_, .given (hf := h81) (hd := rfl) (ha := rfl), ?_⟩; simp (maxSteps := 4000000) only [go_sem, q0]) | (refine ⟨_, .given (hf := h11) (hd := rfl) (ha := rfl), ?_⟩; simp (maxSteps := 4000000) only [go_sem, q0]))); refine hK _ ?_; clear hK K) | refine walkL_nil ?_ | refine walkL_ret ?_ | refine walkL_exit ?_ | refine blockA_here ?_ | refine blockA_other rfl ?_ | refine blockA_ret ?_ | refine blockA_normal ?_ | refine thenA_ret ?_ | refine thenA_exit ?_ | refine thenA_normal ?_)
          simp (maxSteps := 4000000) only [go_sem]
end Go.Ab
namespace Go.Ab
open Go.RowKit Go.Proofs
set_option maxHeartbeats 8000000
theorem next_code {s : Supply} {c n : Int} (h1 : suppE s = 0) (hz : (nextP s c n).2.2 = 0) :
    askB s c n = true ∧ limE (s.carr.getD c.toNat ⟨0, 0, 0, ⟨0, 0, ⟨0, 0⟩⟩⟩).lim = 0 ∧ withinB n 1 48 = true ∧ (nextP s c n).1 = (nextW s c n).2.1 ∧ 0 ≤ (nextW s c n).2.1 := by
  unfold nextP at hz ⊢
  unfold openS6 at hz ⊢
  rw [if_pos h1] at hz ⊢
  cases hask : askB s c n with
  | false => rw [hask] at hz; simp at hz
  | true =>
    rw [hask] at hz
    simp only [if_true] at hz ⊢
    by_cases hne : nextE s c n = 0
    · rw [if_pos hne]
      refine ⟨trivial, ?_⟩
      unfold nextE at hne
      split at hne
      · cases hne
      · rename_i hn
        have hneg : ¬ (nextW s c n).2.1 < 0 := fun h => hn ⟨hne, h⟩
        have hw : (nextW s c n).2.2 = 0 := hne
        rw [nextW] at hw
        rw [windowF] at hw
        split at hw
        · rename_i hlk
          obtain ⟨_, _, _, l1, l2⟩ := look_all hlk
          exact ⟨l1, l2, rfl, by omega⟩
        · rename_i hlk
          exact absurd hw hlk
    · rw [if_neg hne] at hz
      exact absurd hz hne
theorem next_more {s : Supply} {o : Sight} {c n : Int} (h1 : suppE s = 0) (h2 : suppE { s with seen := s.seen ++ [o] } = 0) (hz : (nextP s c n).2.2 = 0) :
    (nextP { s with seen := s.seen ++ [o] } c n).2.2 = 0 ∧ 0 ≤ (nextP { s with seen := s.seen ++ [o] } c n).1 ∧ (nextP { s with seen := s.seen ++ [o] } c n).1 ≤ (nextP s c n).1 ∧ (nextP s c n).1 ≤ 48 := by
  obtain ⟨hask, hlim, hwn, he, h0⟩ := next_code h1 hz
  obtain ⟨hg, hsi, hpo, _, _⟩ := look_all (supp_look h1)
  obtain ⟨_, hsm, hpm, _, _⟩ := look_all (supp_look h2)
  have hms := more_scen5 hg hsi hsm
  have hw1 := within_iff.1 hwn
  obtain ⟨N, rfl⟩ : ∃ N : Nat, n = (N : Int) := ⟨n.toNat, by omega⟩
  have hN : 1 ≤ N := by omega
  obtain ⟨L, hL⟩ : ∃ L, L = (s.carr.getD c.toNat ⟨0, 0, 0, ⟨0, 0, ⟨0, 0⟩⟩⟩).lim := ⟨_, rfl⟩
  rw [← hL] at hlim
  have hW1 : (nextW s c N).2.1 = if winNever L N (scensOf (possL s.scen s.seen)) then -1 else winLast L N (scensOf (possL s.scen s.seen)) := by
    rw [nextW, ← hL, windowF, hlim, hwn, if_pos (supp_look h1)]
  have hW2 : nextW { s with seen := s.seen ++ [o] } c N = windowF s.scen (s.seen ++ [o]) L N := by rw [hL]; rfl
  have hlk2 : lookF s.scen (s.seen ++ [o]) 0 true = 0 := supp_look h2
  rw [hW1] at h0 he
  have hnv : winNever L N (scensOf (possL s.scen s.seen)) = false := by
    cases hv : winNever L N (scensOf (possL s.scen s.seen)) with
    | false => rfl
    | true => rw [hv] at h0; simp at h0
  rw [hnv] at h0 he
  simp only [Bool.false_eq_true, if_false] at h0 he
  have hall : ∀ x ∈ scensOf (possL s.scen s.seen), 0 ≤ beginsF (x.map (alwaysB L)) N := fun x hx => by
    rw [winNever, List.any_eq_false] at hnv
    have := hnv x hx
    simp at this
    exact this
  have hlast := winLast_le.1 (Int.le_refl (winLast L (N : Int) (scensOf (possL s.scen s.seen))))
  have hmore : ∀ y ∈ scensOf (possL s.scen (s.seen ++ [o])), 0 ≤ beginsF (y.map (alwaysB L)) N ∧ beginsF (y.map (alwaysB L)) N ≤ winLast L N (scensOf (possL s.scen s.seen)) := fun y hy => by
    obtain ⟨x, hx, hlen, hal⟩ := hms y hy
    have hle : LeB (x.map (alwaysB L)) (y.map (alwaysB L)) := by
      intro k hk
      have hlt : k < x.length := by have := (List.getElem?_eq_some_iff.1 hk).1; simpa using this
      rw [map_hour hlt] at hk
      rw [map_hour (by omega), hal k hlt L (by simpa using hk)]
    have hb := begins_mono hN hle (hall x hx)
    have := hlast.2 x hx
    omega
  have hnv2 : winNever L N (scensOf (possL s.scen (s.seen ++ [o]))) = false := by
    rw [winNever, List.any_eq_false]
    intro y hy
    have := (hmore y hy).1
    simp
    omega
  have hle2 : winLast L N (scensOf (possL s.scen (s.seen ++ [o]))) ≤ winLast L N (scensOf (possL s.scen s.seen)) := winLast_le.2 ⟨by omega, fun y hy => (hmore y hy).2⟩
  have hge2 : 0 ≤ winLast L N (scensOf (possL s.scen (s.seen ++ [o]))) := by
    have hl2 := winLast_le.1 (Int.le_refl (winLast L (N : Int) (scensOf (possL s.scen (s.seen ++ [o])))))
    obtain ⟨y, hy⟩ : ∃ y, y ∈ scensOf (possL s.scen (s.seen ++ [o])) := by
      cases hq : possL s.scen (s.seen ++ [o]) with
      | nil => exact absurd hq hpm
      | cons a r => exact ⟨_, by rw [scensOf]; exact List.mem_map_of_mem (List.mem_cons_self)⟩
    have h3 := hl2.2 y hy
    have h4 := (hmore y hy).1
    omega
  have h48 : winLast L N (scensOf (possL s.scen s.seen)) ≤ 48 := winLast_le.2 ⟨by decide, fun x hx => by
    have hb := begins_end hN (hall x hx)
    obtain ⟨l, hl, _, rfl⟩ := scens5_mem.1 hx
    rw [List.length_map, seenHours_len, hg.len l hl] at hb
    have := hg.hours
    omega⟩
  have hw2v : nextW { s with seen := s.seen ++ [o] } c N = ((windowF s.scen (s.seen ++ [o]) L N).1, winLast L N (scensOf (possL s.scen (s.seen ++ [o]))), 0) := by
    rw [hW2]
    rw [windowF, hlim, hwn, if_pos hlk2, hnv2]
    rfl
  have hne2 : nextE { s with seen := s.seen ++ [o] } c N = 0 := by
    rw [nextE, hw2v, if_neg (fun h => by have := h.2; dsimp only at this; omega)]
  obtain ⟨bb, hnp2⟩ : ∃ bb, nextP { s with seen := s.seen ++ [o] } c N = (winLast L N (scensOf (possL s.scen (s.seen ++ [o]))), bb, 0) := by
    have hopen : openS6 { s with seen := s.seen ++ [o] } (askB { s with seen := s.seen ++ [o] } c N) = 0 := by
      rw [openS6, if_pos h2]
      have : askB { s with seen := s.seen ++ [o] } c (N : Int) = true := hask
      rw [this]
      rfl
    exact ⟨_, by rw [nextP, if_pos hopen, if_pos hne2, hw2v]⟩
  rw [hnp2, he]
  exact ⟨rfl, hge2, hle2, h48⟩
theorem days_mono {a b : Int} (h0 : 0 ≤ a) (h : a ≤ b) (hb : b ≤ 48) : daysP a ≤ daysP b ∧ 0 ≤ daysP a := by
  have e : ∀ x : Int, 0 ≤ x → x ≤ 48 → daysP x = (x + 23) / 24 := fun x h1 h2 => by
    rw [daysP, wr_small (x := x + 23) (by omega), Int.tdiv_eq_ediv_of_nonneg (by omega), wr_small (by omega)]
  rw [e a h0 (by omega), e b (by omega) hb]
  omega
end Go.Ab
namespace Go.Ab
open Go.RowKit Go.Proofs
set_option maxHeartbeats 16000000
set_option maxRecDepth 20000
attribute [local irreducible] WalkL Walk
def badFc (k : Kitchen) (M : List (List Int)) (s : Supply) (o : Sight) : Bool := far7 k || (farRows M || (farSup s || (openK k M != 0 || (suppE s != 0 || suppE (s.more o) != 0))))
def betterCells (s : Supply) (c n : Int) (o : Sight) : List DV := [.sl (scenRows s.scen), .sl (sightRows s.seen), .i s.stock, .i s.reserve, .i s.room, .i s.use.lo, .i s.use.hi, .sl (carrRows s.carr), .i c, .i n, .i o.hour, .i o.sky.wind, .i o.sky.rain, .i o.sky.temp]
theorem enough_code {k : Kitchen} {M : List (List Int)} (s : Supply) (c n : Int) (h0 : openK k M = 0) : enoughP k M s c n = if (nextP s c n).2.2 = 0 then (daysP (nextP s c n).1, decide (daysP (nextP s c n).1 ≤ (mostK k M : Int)), 0) else (0, false, (nextP s c n).2.2) := by rw [enoughP, if_pos h0]
theorem zf10 (k : Kitchen) (M : List (List Int)) (s : Supply) (c n : Int) (o : Sight) (hk : KitSmall k) (hM : M.length < 2 ^ 30) (hMr : ∀ r ∈ M, r.length < 2 ^ 30) (hs : SuppSmall s) (hl1 : s.seen.length + 1 < 2 ^ 30) :
    Fn Tryz.prog 10 [.agg k.cells, .sl (listRows M), .agg (betterCells s c n o)] (.bool true) := by
  have hsm : SuppSmall (s.more o) := ⟨hs.fore, by simpa [Supply.more] using hl1, hs.carr⟩
  have h13 := zf13m s hs
  have h37 := zf37 k hk
  have h38 := zf38 M hM
  have h39 := zf39 s hs
  have h40 := zf40 k M hk hM hMr
  have h24 := zf24 s hs
  have h24' := zf24 (s.more o) hsm
  have h46 := zf46 k M s c n hk hM hMr hs
  have h46' := zf46 k M (s.more o) c n hk hM hMr hsm
  have h26 := zf26 s c n hs
  have h26' := zf26 (s.more o) c n hsm
  have h41 := zf41
  have hn : s.seen.length + 1 ≤ 549755813888 := by omega
  have e9 : sightRows s.seen ++ [[.i o.hour, .i o.sky.wind, .i o.sky.rain, .i o.sky.temp]] = sightRows (s.seen ++ [o]) := by simp [sightRows, Sight.row]
  have hmc : (s.more o).cells = [.sl (scenRows s.scen), .sl (sightRows (s.seen ++ [o])), .i s.stock, .i s.reserve, .i s.room, .i s.use.lo, .i s.use.hi, .sl (carrRows s.carr)] := rfl
  rw [hmc] at h24' h46' h26'
  rw [Supply.cells] at h13 h39 h24 h46 h26
  rw [Kitchen.cells] at h37 h40 h46 h46'
  refine fn_walk 152 Tryz.call10 Tryz.func10 rfl (by decide) fun J => ?_
  simp (maxSteps := 4000000) only [go_sem, St.start, Tryz.ntmps10, Tryz.results10, Kitchen.cells, betterCells]
  repeat (first | refine walkL_seq ?_ | refine walkL_skip ?_ | refine walkL_block ?_ | (refine walkL_region fun K hK => ?_; simp (maxSteps := 4000000) only [go_sem]; refine hK _ ?_; clear hK K) | refine walkL_nil ?_ | refine walkL_ret ?_ | refine walkL_exit ?_ | refine blockA_here ?_ | refine blockA_other rfl ?_ | refine blockA_ret ?_ | refine blockA_normal ?_ | refine thenA_ret ?_ | refine thenA_exit ?_ | refine thenA_normal ?_)
  refine walkL_region fun K hK => ?_
  simp (maxSteps := 4000000) only [go_sem]
  refine ⟨_, .made (news := [0, 1]) (hf := h13) (hd := rfl) (hn := by decide) (hl := rfl) (hnew := rfl) (hx := rfl), ?_⟩
  simp (maxSteps := 4000000) only [go_sem, List.map_cons, List.map_nil]
  refine hK _ ?_
  clear hK K
  repeat (first | refine walkL_seq ?_ | refine walkL_skip ?_ | refine walkL_block ?_ | (refine walkL_region fun K hK => ?_; simp (maxSteps := 4000000) only [go_sem, hn, e9, sightRows_len]; refine hK _ ?_; clear hK K) | refine walkL_nil ?_ | refine walkL_ret ?_ | refine walkL_exit ?_ | refine blockA_here ?_ | refine blockA_other rfl ?_ | refine blockA_ret ?_ | refine blockA_normal ?_ | refine thenA_ret ?_ | refine thenA_exit ?_ | refine thenA_normal ?_)
  refine walkL_meetS [(60, .d (.bool (badFc k M s o)))] [] ?_ ?_
  · refine walkL_region fun K hK => ?_
    simp (maxSteps := 4000000) only [go_sem]
    refine ⟨_, .lent (hf := h37) (hd := rfl) (hr := rfl), ?_⟩
    simp (maxSteps := 4000000) only [go_sem]
    by_cases ho0 : (far7 k) = true
    · simp (maxSteps := 4000000) only [go_sem, ho0]
      refine hK _ ?_
      clear hK K
      refine walkL_nil ?_
      refine thenA_normal ?_
      refine ⟨rfl, ?_⟩
      rw [show (badFc k M s o) = (true) from by simp [badFc, ho0]]
      simp (maxSteps := 4000000) only [go_sem]
      refine weak_of [] ?_ ?_ rfl rfl <;> simp [lessT, lessM, lessB, AV.less]
    · simp (maxSteps := 4000000) only [go_sem, ho0]
      refine ⟨_, .lent (hf := h38) (hd := rfl) (hr := rfl), ?_⟩
      simp (maxSteps := 4000000) only [go_sem, ho0]
      by_cases ho1 : (farRows M) = true
      · simp (maxSteps := 4000000) only [go_sem, ho0, ho1]
        refine hK _ ?_
        clear hK K
        refine walkL_nil ?_
        refine thenA_normal ?_
        refine ⟨rfl, ?_⟩
        rw [show (badFc k M s o) = (true) from by simp [badFc, ho0, ho1]]
        simp (maxSteps := 4000000) only [go_sem]
        refine weak_of [] ?_ ?_ rfl rfl <;> simp [lessT, lessM, lessB, AV.less]
      · simp (maxSteps := 4000000) only [go_sem, ho0, ho1]
        refine ⟨_, .lent (hf := h39) (hd := rfl) (hr := rfl), ?_⟩
        simp (maxSteps := 4000000) only [go_sem, ho0, ho1]
        by_cases ho2 : (farSup s) = true
        · simp (maxSteps := 4000000) only [go_sem, ho0, ho1, ho2]
          refine hK _ ?_
          clear hK K
          refine walkL_nil ?_
          refine thenA_normal ?_
          refine ⟨rfl, ?_⟩
          rw [show (badFc k M s o) = (true) from by simp [badFc, ho0, ho1, ho2]]
          simp (maxSteps := 4000000) only [go_sem]
          refine weak_of [] ?_ ?_ rfl rfl <;> simp [lessT, lessM, lessB, AV.less]
        · simp (maxSteps := 4000000) only [go_sem, ho0, ho1, ho2]
          refine ⟨_, .lent (hf := h40) (hd := rfl) (hr := rfl), ?_⟩
          simp (maxSteps := 4000000) only [go_sem, ho0, ho1, ho2]
          by_cases ho3 : (openK k M != 0) = true
          · simp (maxSteps := 4000000) only [go_sem, ho0, ho1, ho2, ho3]
            refine hK _ ?_
            clear hK K
            refine walkL_nil ?_
            refine thenA_normal ?_
            refine ⟨rfl, ?_⟩
            rw [show (badFc k M s o) = (true) from by simp [badFc, ho0, ho1, ho2, ho3]]
            simp (maxSteps := 4000000) only [go_sem]
            refine weak_of [] ?_ ?_ rfl rfl <;> simp [lessT, lessM, lessB, AV.less]
          · simp (maxSteps := 4000000) only [go_sem, ho0, ho1, ho2, ho3]
            refine ⟨_, .lent (hf := h24) (hd := rfl) (hr := rfl), ?_⟩
            simp (maxSteps := 4000000) only [go_sem, ho0, ho1, ho2, ho3]
            by_cases ho4 : (suppE s != 0) = true
            · simp (maxSteps := 4000000) only [go_sem, ho0, ho1, ho2, ho3, ho4]
              refine hK _ ?_
              clear hK K
              refine walkL_nil ?_
              refine thenA_normal ?_
              refine ⟨rfl, ?_⟩
              rw [show (badFc k M s o) = (true) from by simp [badFc, ho0, ho1, ho2, ho3, ho4]]
              simp (maxSteps := 4000000) only [go_sem]
              refine weak_of [] ?_ ?_ rfl rfl <;> simp [lessT, lessM, lessB, AV.less]
            · simp (maxSteps := 4000000) only [go_sem, ho0, ho1, ho2, ho3, ho4]
              refine ⟨_, .lent (hf := h24') (hd := rfl) (hr := rfl), ?_⟩
              simp (maxSteps := 4000000) only [go_sem, ho0, ho1, ho2, ho3, ho4]
              refine hK _ ?_
              clear hK K
              refine walkL_nil ?_
              refine thenA_normal ?_
              refine ⟨rfl, ?_⟩
              rw [show (badFc k M s o) = (suppE (s.more o) != 0) from by simp [badFc, ho0, ho1, ho2, ho3, ho4]]
              simp (maxSteps := 4000000) only [go_sem]
              refine weak_of [] ?_ ?_ rfl rfl <;> simp [lessT, lessM, lessB, AV.less]
  simp (maxSteps := 4000000) only [go_sem]
  repeat (first | refine walkL_seq ?_ | refine walkL_skip ?_ | refine walkL_block ?_ | (refine walkL_region fun K hK => ?_; simp (maxSteps := 4000000) only [go_sem]; refine hK _ ?_; clear hK K) | refine walkL_nil ?_ | refine walkL_ret ?_ | refine walkL_exit ?_ | refine blockA_here ?_ | refine blockA_other rfl ?_ | refine blockA_ret ?_ | refine blockA_normal ?_ | refine thenA_ret ?_ | refine thenA_exit ?_ | refine thenA_normal ?_)
  refine walkL_cond rfl (fun hc => ?_) (fun hc => ?_)
  · repeat (first | refine walkL_seq ?_ | refine walkL_skip ?_ | refine walkL_block ?_ | (refine walkL_region fun K hK => ?_; simp (maxSteps := 4000000) only [go_sem]; (repeat (first | (refine ⟨_, .lent (hf := h41) (hd := rfl) (hr := rfl), ?_⟩; simp (maxSteps := 4000000) only [go_sem]) | (refine ⟨_, .given (hf := h41) (hd := rfl) (ha := rfl), ?_⟩; simp (maxSteps := 4000000) only [go_sem]))); refine hK _ ?_; clear hK K) | refine walkL_nil ?_ | refine walkL_ret ?_ | refine walkL_exit ?_ | refine blockA_here ?_ | refine blockA_other rfl ?_ | refine blockA_ret ?_ | refine blockA_normal ?_ | refine thenA_ret ?_ | refine thenA_exit ?_ | refine thenA_normal ?_)
    simp (maxSteps := 4000000) only [go_sem]
  · have hbad := hc
    simp only [badFc, Bool.or_eq_false_iff, bne_eq_false_iff_eq] at hbad
    obtain ⟨_, _, _, b4, b5, b6⟩ := hbad
    have hnx := next_more (s := s) (o := o) (c := c) (n := n) b5 b6
    change (nextP s c n).2.2 = 0 → (nextP (s.more o) c n).2.2 = 0 ∧ 0 ≤ (nextP (s.more o) c n).1 ∧ (nextP (s.more o) c n).1 ≤ (nextP s c n).1 ∧ (nextP s c n).1 ≤ 48 at hnx
    rw [enough_code s c n b4] at h46
    rw [enough_code (s.more o) c n b4] at h46'
    obtain ⟨⟨a1, c1, e1⟩, hP1⟩ : ∃ x, nextP s c n = x := ⟨_, rfl⟩
    obtain ⟨⟨a2, c2, e2⟩, hP2⟩ : ∃ x, nextP (s.more o) c n = x := ⟨_, rfl⟩
    rw [hP1] at h46 h26 hnx
    rw [hP2] at h46' h26' hnx
    dsimp only at h46 h46' h26 h26' hnx
    obtain ⟨m, hm⟩ : ∃ m, m = mostK k M := ⟨_, rfl⟩
    rw [← hm] at h46 h46'
    have s1 : (e1 != e1) = false := by simp
    have s2 : (e2 != e2) = false := by simp
    by_cases h0 : e1 = 0
    · obtain ⟨n1, n2, n3, n4⟩ := hnx h0
      subst h0
      subst n1
      rw [if_pos rfl] at h46 h46'
      dsimp only at h46 h46'
      have hd := (days_mono n2 n3 n4).1
      obtain ⟨d1, hd1⟩ : ∃ d, d = daysP a1 := ⟨_, rfl⟩
      obtain ⟨d2, hd2⟩ : ∃ d, d = daysP a2 := ⟨_, rfl⟩
      rw [← hd1] at h46 hd
      rw [← hd2] at h46' hd
      have qd : decide (d2 ≤ d1) = true := decide_eq_true hd
      have qh : decide (a2 ≤ a1) = true := decide_eq_true n3
      cases hB1 : decide (d1 ≤ (m : Int))
      · rw [hB1] at h46
        repeat (first | refine walkL_true rfl ?_ | refine walkL_false rfl ?_ | refine walkL_seq ?_ | refine walkL_skip ?_ | refine walkL_block ?_ | (refine walkL_region fun K hK => ?_; simp (maxSteps := 4000000) only [go_sem, qd, qh]; (repeat (first | (refine ⟨_, .lent (hf := h46) (hd := rfl) (hr := rfl), ?_⟩; simp (maxSteps := 4000000) only [go_sem, qd, qh]) | (refine ⟨_, .lent (hf := h46') (hd := rfl) (hr := rfl), ?_⟩; simp (maxSteps := 4000000) only [go_sem, qd, qh]) | (refine ⟨_, .lent (hf := h26) (hd := rfl) (hr := rfl), ?_⟩; simp (maxSteps := 4000000) only [go_sem, qd, qh]) | (refine ⟨_, .lent (hf := h26') (hd := rfl) (hr := rfl), ?_⟩; simp (maxSteps := 4000000) only [go_sem, qd, qh]) | (refine ⟨_, .lent (hf := h41) (hd := rfl) (hr := rfl), ?_⟩; simp (maxSteps := 4000000) only [go_sem, qd, qh]) | (refine ⟨_, .given (hf := h46) (hd := rfl) (ha := rfl), ?_⟩; simp (maxSteps := 4000000) only [go_sem, qd, qh]) | (refine ⟨_, .given (hf := h46') (hd := rfl) (ha := rfl), ?_⟩; simp (maxSteps := 4000000) only [go_sem, qd, qh]) | (refine ⟨_, .given (hf := h26) (hd := rfl) (ha := rfl), ?_⟩; simp (maxSteps := 4000000) only [go_sem, qd, qh]) | (refine ⟨_, .given (hf := h26') (hd := rfl) (ha := rfl), ?_⟩; simp (maxSteps := 4000000) only [go_sem, qd, qh]) | (refine ⟨_, .given (hf := h41) (hd := rfl) (ha := rfl), ?_⟩; simp (maxSteps := 4000000) only [go_sem, qd, qh]))); refine hK _ ?_; clear hK K) | refine walkL_nil ?_ | refine walkL_ret ?_ | refine walkL_exit ?_ | refine blockA_here ?_ | refine blockA_other rfl ?_ | refine blockA_ret ?_ | refine blockA_normal ?_ | refine thenA_ret ?_ | refine thenA_exit ?_ | refine thenA_normal ?_)
        simp (maxSteps := 4000000) only [go_sem]
      · have hB2 : decide (d2 ≤ (m : Int)) = true := by simp only [decide_eq_true_eq] at hB1 ⊢; omega
        rw [hB1] at h46
        rw [hB2] at h46'
        repeat (first | refine walkL_true rfl ?_ | refine walkL_false rfl ?_ | refine walkL_seq ?_ | refine walkL_skip ?_ | refine walkL_block ?_ | (refine walkL_region fun K hK => ?_; simp (maxSteps := 4000000) only [go_sem, qd, qh]; (repeat (first | (refine ⟨_, .lent (hf := h46) (hd := rfl) (hr := rfl), ?_⟩; simp (maxSteps := 4000000) only [go_sem, qd, qh]) | (refine ⟨_, .lent (hf := h46') (hd := rfl) (hr := rfl), ?_⟩; simp (maxSteps := 4000000) only [go_sem, qd, qh]) | (refine ⟨_, .lent (hf := h26) (hd := rfl) (hr := rfl), ?_⟩; simp (maxSteps := 4000000) only [go_sem, qd, qh]) | (refine ⟨_, .lent (hf := h26') (hd := rfl) (hr := rfl), ?_⟩; simp (maxSteps := 4000000) only [go_sem, qd, qh]) | (refine ⟨_, .lent (hf := h41) (hd := rfl) (hr := rfl), ?_⟩; simp (maxSteps := 4000000) only [go_sem, qd, qh]) | (refine ⟨_, .given (hf := h46) (hd := rfl) (ha := rfl), ?_⟩; simp (maxSteps := 4000000) only [go_sem, qd, qh]) | (refine ⟨_, .given (hf := h46') (hd := rfl) (ha := rfl), ?_⟩; simp (maxSteps := 4000000) only [go_sem, qd, qh]) | (refine ⟨_, .given (hf := h26) (hd := rfl) (ha := rfl), ?_⟩; simp (maxSteps := 4000000) only [go_sem, qd, qh]) | (refine ⟨_, .given (hf := h26') (hd := rfl) (ha := rfl), ?_⟩; simp (maxSteps := 4000000) only [go_sem, qd, qh]) | (refine ⟨_, .given (hf := h41) (hd := rfl) (ha := rfl), ?_⟩; simp (maxSteps := 4000000) only [go_sem, qd, qh]))); refine hK _ ?_; clear hK K) | refine walkL_nil ?_ | refine walkL_ret ?_ | refine walkL_exit ?_ | refine blockA_here ?_ | refine blockA_other rfl ?_ | refine blockA_ret ?_ | refine blockA_normal ?_ | refine thenA_ret ?_ | refine thenA_exit ?_ | refine thenA_normal ?_)
        simp (maxSteps := 4000000) only [go_sem]
    · have hz : (e1 != 0) = true := by simpa using h0
      rw [if_neg h0] at h46
      by_cases h2 : e2 = 0
      · subst h2
        rw [if_pos rfl] at h46'
        repeat (first | refine walkL_true rfl ?_ | refine walkL_false rfl ?_ | refine walkL_seq ?_ | refine walkL_skip ?_ | refine walkL_block ?_ | (refine walkL_region fun K hK => ?_; simp (maxSteps := 4000000) only [go_sem, s1, s2, hz]; (repeat (first | (refine ⟨_, .lent (hf := h46) (hd := rfl) (hr := rfl), ?_⟩; simp (maxSteps := 4000000) only [go_sem, s1, s2, hz]) | (refine ⟨_, .lent (hf := h46') (hd := rfl) (hr := rfl), ?_⟩; simp (maxSteps := 4000000) only [go_sem, s1, s2, hz]) | (refine ⟨_, .lent (hf := h26) (hd := rfl) (hr := rfl), ?_⟩; simp (maxSteps := 4000000) only [go_sem, s1, s2, hz]) | (refine ⟨_, .lent (hf := h26') (hd := rfl) (hr := rfl), ?_⟩; simp (maxSteps := 4000000) only [go_sem, s1, s2, hz]) | (refine ⟨_, .lent (hf := h41) (hd := rfl) (hr := rfl), ?_⟩; simp (maxSteps := 4000000) only [go_sem, s1, s2, hz]) | (refine ⟨_, .given (hf := h46) (hd := rfl) (ha := rfl), ?_⟩; simp (maxSteps := 4000000) only [go_sem, s1, s2, hz]) | (refine ⟨_, .given (hf := h46') (hd := rfl) (ha := rfl), ?_⟩; simp (maxSteps := 4000000) only [go_sem, s1, s2, hz]) | (refine ⟨_, .given (hf := h26) (hd := rfl) (ha := rfl), ?_⟩; simp (maxSteps := 4000000) only [go_sem, s1, s2, hz]) | (refine ⟨_, .given (hf := h26') (hd := rfl) (ha := rfl), ?_⟩; simp (maxSteps := 4000000) only [go_sem, s1, s2, hz]) | (refine ⟨_, .given (hf := h41) (hd := rfl) (ha := rfl), ?_⟩; simp (maxSteps := 4000000) only [go_sem, s1, s2, hz]))); refine hK _ ?_; clear hK K) | refine walkL_nil ?_ | refine walkL_ret ?_ | refine walkL_exit ?_ | refine blockA_here ?_ | refine blockA_other rfl ?_ | refine blockA_ret ?_ | refine blockA_normal ?_ | refine thenA_ret ?_ | refine thenA_exit ?_ | refine thenA_normal ?_)
        simp (maxSteps := 4000000) only [go_sem]
      · rw [if_neg h2] at h46'
        repeat (first | refine walkL_true rfl ?_ | refine walkL_false rfl ?_ | refine walkL_seq ?_ | refine walkL_skip ?_ | refine walkL_block ?_ | (refine walkL_region fun K hK => ?_; simp (maxSteps := 4000000) only [go_sem, s1, s2, hz]; (repeat (first | (refine ⟨_, .lent (hf := h46) (hd := rfl) (hr := rfl), ?_⟩; simp (maxSteps := 4000000) only [go_sem, s1, s2, hz]) | (refine ⟨_, .lent (hf := h46') (hd := rfl) (hr := rfl), ?_⟩; simp (maxSteps := 4000000) only [go_sem, s1, s2, hz]) | (refine ⟨_, .lent (hf := h26) (hd := rfl) (hr := rfl), ?_⟩; simp (maxSteps := 4000000) only [go_sem, s1, s2, hz]) | (refine ⟨_, .lent (hf := h26') (hd := rfl) (hr := rfl), ?_⟩; simp (maxSteps := 4000000) only [go_sem, s1, s2, hz]) | (refine ⟨_, .lent (hf := h41) (hd := rfl) (hr := rfl), ?_⟩; simp (maxSteps := 4000000) only [go_sem, s1, s2, hz]) | (refine ⟨_, .given (hf := h46) (hd := rfl) (ha := rfl), ?_⟩; simp (maxSteps := 4000000) only [go_sem, s1, s2, hz]) | (refine ⟨_, .given (hf := h46') (hd := rfl) (ha := rfl), ?_⟩; simp (maxSteps := 4000000) only [go_sem, s1, s2, hz]) | (refine ⟨_, .given (hf := h26) (hd := rfl) (ha := rfl), ?_⟩; simp (maxSteps := 4000000) only [go_sem, s1, s2, hz]) | (refine ⟨_, .given (hf := h26') (hd := rfl) (ha := rfl), ?_⟩; simp (maxSteps := 4000000) only [go_sem, s1, s2, hz]) | (refine ⟨_, .given (hf := h41) (hd := rfl) (ha := rfl), ?_⟩; simp (maxSteps := 4000000) only [go_sem, s1, s2, hz]))); refine hK _ ?_; clear hK K) | refine walkL_nil ?_ | refine walkL_ret ?_ | refine walkL_exit ?_ | refine blockA_here ?_ | refine blockA_other rfl ?_ | refine blockA_ret ?_ | refine blockA_normal ?_ | refine thenA_ret ?_ | refine thenA_exit ?_ | refine thenA_normal ?_)
        simp (maxSteps := 4000000) only [go_sem]
end Go.Ab
namespace Go.Ab
open Go.RowKit Go.Proofs Go.ChangeShapes Go.WideShapes Go.Proofs.YtnlodbjgmfmlnaaGreat
set_option linter.unusedVariables false
set_option maxRecDepth 100000
def threeS : List Sh := [iS, iS, iS]
theorem bat_of {N : Nat} {r : List DV} (h : Sh.fitsL N threeS r) : ∃ s : Batch, r = s.row ∧ True := by
  simp only [threeS, iS, Sh.fitsL, Sh.fits] at h
  obtain ⟨_, _, rfl, ⟨a, rfl, _⟩, _, _, rfl, ⟨b, rfl, _⟩, _, _, rfl, ⟨c, rfl, _⟩, rfl⟩ := h
  exact ⟨⟨a, b, c⟩, rfl, trivial⟩
theorem din_of {N : Nat} {r : List DV} (h : Sh.fitsL N threeS r) : ∃ s : Diners, r = s.row ∧ True := by
  simp only [threeS, iS, Sh.fitsL, Sh.fits] at h
  obtain ⟨_, _, rfl, ⟨a, rfl, _⟩, _, _, rfl, ⟨b, rfl, _⟩, _, _, rfl, ⟨c, rfl, _⟩, rfl⟩ := h
  exact ⟨⟨a, ⟨b, c⟩⟩, rfl, trivial⟩
theorem bats_of {N : Nat} {d : DV} (h : Sh.fits N (.sl threeS) d) : ∃ l : List Batch, d = .sl (batRows l) ∧ l.length ≤ N := by
  simp only [Sh.fits] at h
  obtain ⟨rows, rfl, hl, hr⟩ := h
  obtain ⟨l, rfl, _⟩ := rows_of (fun r h => bat_of (hr r h))
  exact ⟨l, rfl, by simpa using hl⟩
theorem dish_of {N : Nat} {r : List DV} (h : Sh.fitsL N [.sl [iS]] r) : ∃ l : Dish, r = l.row ∧ l.needs.length ≤ N := by
  rw [Sh.fitsL] at h
  obtain ⟨d, _, rfl, h, h2⟩ := h
  rw [Sh.fitsL] at h2
  subst h2
  obtain ⟨l, rfl, hl⟩ := ints_of h
  exact ⟨⟨l⟩, rfl, hl⟩
theorem dishes_of {N : Nat} {d : DV} (h : Sh.fits N (.sl [.sl [iS]]) d) : ∃ l : List Dish, d = .sl (dishRows l) ∧ l.length ≤ N ∧ ∀ x ∈ l, x.needs.length ≤ N := by
  rw [Sh.fits] at h
  obtain ⟨rows, rfl, hl, hr⟩ := h
  obtain ⟨l, rfl, hq⟩ := rows_of (row := Dish.row) (fun r h => dish_of (hr r h))
  exact ⟨l, rfl, by simpa using hl, hq⟩
theorem menu_of {N : Nat} {r : List DV} (h : Sh.fitsL N [.sl [iS]] r) : ∃ l : List Int, r = [.sl (intRows l)] ∧ l.length ≤ N := by
  rw [Sh.fitsL] at h
  obtain ⟨d, _, rfl, h, h2⟩ := h
  rw [Sh.fitsL] at h2
  subst h2
  obtain ⟨l, rfl, hl⟩ := ints_of h
  exact ⟨l, rfl, hl⟩
theorem menus_of {N : Nat} {d : DV} (h : Sh.fits N (.sl [.sl [iS]]) d) : ∃ l : List (List Int), d = .sl (listRows l) ∧ l.length ≤ N ∧ ∀ x ∈ l, x.length ≤ N := by
  rw [Sh.fits] at h
  obtain ⟨rows, rfl, hl, hr⟩ := h
  obtain ⟨l, rfl, hq⟩ := rows_of (row := fun l : List Int => [DV.sl (intRows l)]) (fun r h => menu_of (hr r h))
  exact ⟨l, rfl, by simpa using hl, hq⟩
theorem dins_of {N : Nat} {r : List DV} (h : Sh.fitsL N [.sl threeS] r) : ∃ l : List Diners, r = [.sl (dinRows l)] ∧ l.length ≤ N := by
  rw [Sh.fitsL] at h
  obtain ⟨d, _, rfl, h, h2⟩ := h
  rw [Sh.fitsL] at h2
  subst h2
  rw [Sh.fits] at h
  obtain ⟨rows, rfl, hl, hr⟩ := h
  obtain ⟨l, rfl, _⟩ := rows_of (fun r h => din_of (hr r h))
  exact ⟨l, rfl, by simpa using hl⟩
theorem days_of {N : Nat} {d : DV} (h : Sh.fits N (.sl [.sl threeS]) d) : ∃ l : List (List Diners), d = .sl (dayRows l) ∧ l.length ≤ N ∧ ∀ x ∈ l, x.length ≤ N := by
  rw [Sh.fits] at h
  obtain ⟨rows, rfl, hl, hr⟩ := h
  obtain ⟨l, rfl, hq⟩ := rows_of (row := fun l : List Diners => [DV.sl (dinRows l)]) (fun r h => dins_of (hr r h))
  exact ⟨l, rfl, by simpa using hl, hq⟩
def kitS : List Sh := [.sl [iS], .sl threeS, .sl [.sl [iS]], .sl [.sl threeS]]
theorem kit_of {N : Nat} (hN : N < 2 ^ 29) {r : List DV} (h : Sh.fitsL N kitS r) : ∃ k : Kitchen, r = k.cells ∧ KitSmall k := by
  unfold kitS at h
  rw [Sh.fitsL] at h
  obtain ⟨x0, _, rfl, h0, h⟩ := h
  rw [Sh.fitsL] at h
  obtain ⟨x1, _, rfl, h1, h⟩ := h
  rw [Sh.fitsL] at h
  obtain ⟨x2, _, rfl, h2, h⟩ := h
  rw [Sh.fitsL] at h
  obtain ⟨x3, _, rfl, h3, h⟩ := h
  rw [Sh.fitsL] at h
  subst h
  obtain ⟨A, rfl, a1⟩ := ints_of h0
  obtain ⟨B, rfl, b1⟩ := bats_of h1
  obtain ⟨C, rfl, c1, c2⟩ := dishes_of h2
  obtain ⟨D, rfl, d1, d2⟩ := days_of h3
  refine ⟨⟨A, B, C, D⟩, rfl, ⟨?_, ?_, ?_, fun x hx => ?_, ?_, fun x hx => ?_⟩⟩
  · show A.length < 2 ^ 30
    omega
  · show B.length < 2 ^ 30
    omega
  · show C.length < 2 ^ 30
    omega
  · have := c2 x hx
    omega
  · show D.length < 2 ^ 30
    omega
  · have := d2 x hx
    omega
structure Stock where
  supp : Supply
  carrier : Int
  len : Int
def stockCells (b : Stock) : List DV := [.sl (scenRows b.supp.scen), .sl (sightRows b.supp.seen), .i b.supp.stock, .i b.supp.reserve, .i b.supp.room, .i b.supp.use.lo, .i b.supp.use.hi, .sl (carrRows b.supp.carr), .i b.carrier, .i b.len]
def stockS : List Sh := [.sl [.sl hourS], .sl sightS, iS, iS, iS, iS, iS, .sl carrS, iS, iS]
structure Better where
  stock : Stock
  sight : Sight
def betterS : List Sh := [.sl [.sl hourS], .sl sightS, iS, iS, iS, iS, iS, .sl carrS, iS, iS, iS, iS, iS, iS]
theorem fitsL_app {N : Nat} : ∀ {a b : List Sh} {r : List DV}, Sh.fitsL N (a ++ b) r → ∃ x y, r = x ++ y ∧ Sh.fitsL N a x ∧ Sh.fitsL N b y
  | [], b, r, h => ⟨[], r, rfl, by rw [Sh.fitsL], h⟩
  | s :: a, b, r, h => by
    rw [List.cons_append, Sh.fitsL] at h
    obtain ⟨d, t, rfl, h1, h2⟩ := h
    obtain ⟨x, y, rfl, hx, hy⟩ := fitsL_app h2
    exact ⟨d :: x, y, rfl, by rw [Sh.fitsL]; exact ⟨d, x, rfl, h1, hx⟩, hy⟩
theorem two_of {N : Nat} {r : List DV} (h : Sh.fitsL N [iS, iS] r) : ∃ a b : Int, r = [.i a, .i b] := by
  simp only [iS, Sh.fitsL, Sh.fits] at h
  obtain ⟨_, _, rfl, ⟨a, rfl, _⟩, _, _, rfl, ⟨b, rfl, _⟩, rfl⟩ := h
  exact ⟨a, b, rfl⟩
theorem stock_of {N : Nat} (hN : N < 2 ^ 29) {r : List DV} (h : Sh.fitsL N stockS r) : ∃ b : Stock, r = stockCells b ∧ SuppSmall b.supp ∧ b.supp.seen.length + 1 < 2 ^ 30 := by
  obtain ⟨x, y, rfl, h1, h2⟩ := fitsL_app (a := suppS) (b := [iS, iS]) h
  obtain ⟨p, rfl, hp, hp2⟩ := supp_of hN h1
  obtain ⟨a, b, rfl⟩ := two_of h2
  exact ⟨⟨p, a, b⟩, rfl, hp, hp2⟩
theorem better_of {N : Nat} (hN : N < 2 ^ 29) {r : List DV} (h : Sh.fitsL N betterS r) : ∃ b : Better, r = betterCells b.stock.supp b.stock.carrier b.stock.len b.sight ∧ SuppSmall b.stock.supp ∧ b.stock.supp.seen.length + 1 < 2 ^ 30 := by
  obtain ⟨x, y, rfl, h1, h2⟩ := fitsL_app (a := stockS) (b := sightS) h
  obtain ⟨p, rfl, hp, hp2⟩ := stock_of hN h1
  obtain ⟨o, rfl, _⟩ := sight_of h2
  exact ⟨⟨p, o⟩, rfl, hp, hp2⟩
theorem kitSh : shapes Tryz.prog 20 79 = some kitS := by kernel_rfl
theorem menusSh : shapes Tryz.prog 20 47 = some [.sl [.sl [iS]]] := by kernel_rfl
theorem betterSh : shapes Tryz.prog 20 97 = some betterS := by kernel_rfl
theorem rdKit : Rd 79 (fun x => ∃ k : Kitchen, x = .agg k.cells ∧ KitSmall k) :=
  ⟨by kernel_rfl, of_decide_eq_true (by kernel_rfl), fun H enc w base v d ps _ h hd => by
    obtain ⟨ds, hf, hr⟩ := agg_read kitSh (by decide) h hd
    obtain ⟨p, rfl, hp⟩ := kit_of (by decide) hf
    exact ⟨_, ⟨p, rfl, hp⟩, hr⟩⟩
theorem rdMenus : Rd 47 (fun x => ∃ M : List (List Int), x = .sl (listRows M) ∧ M.length < 2 ^ 30 ∧ ∀ r ∈ M, r.length < 2 ^ 30) :=
  ⟨by kernel_rfl, of_decide_eq_true (by kernel_rfl), fun H enc w base v d ps hok h hd => by
    obtain ⟨a, len, cap, rfl⟩ := okWide_slice Tryz.underlying47 hok
    obtain ⟨x, hx, hr⟩ := one_read menusSh rfl h hd
    obtain ⟨l, rfl, hl, hl2⟩ := menus_of hx
    exact ⟨_, ⟨l, rfl, by omega, fun r hr => by have := hl2 r hr; omega⟩, hr⟩⟩
theorem rdBetter : Rd 97 (fun x => ∃ b : Better, x = .agg (betterCells b.stock.supp b.stock.carrier b.stock.len b.sight) ∧ SuppSmall b.stock.supp ∧ b.stock.supp.seen.length + 1 < 2 ^ 30) :=
  ⟨by kernel_rfl, of_decide_eq_true (by kernel_rfl), fun H enc w base v d ps _ h hd => by
    obtain ⟨ds, hf, hr⟩ := agg_read betterSh (by decide) h hd
    obtain ⟨p, rfl, hp⟩ := better_of (by decide) hf
    exact ⟨_, ⟨p, rfl, hp⟩, hr⟩⟩
abbrev aQ : TypeId × (DV → Prop) := (79, fun x => ∃ k : Kitchen, x = .agg k.cells ∧ KitSmall k)
abbrev aM : TypeId × (DV → Prop) := (47, fun x => ∃ M : List (List Int), x = .sl (listRows M) ∧ M.length < 2 ^ 30 ∧ ∀ r ∈ M, r.length < 2 ^ 30)
abbrev aO : TypeId × (DV → Prop) := (81, fun x => ∃ b : Stock, x = .agg (stockCells b) ∧ SuppSmall b.supp ∧ b.supp.seen.length + 1 < 2 ^ 30)
abbrev aB : TypeId × (DV → Prop) := (97, fun x => ∃ b : Better, x = .agg (betterCells b.stock.supp b.stock.carrier b.stock.len b.sight) ∧ SuppSmall b.stock.supp ∧ b.stock.supp.seen.length + 1 < 2 ^ 30)
end Go.Ab
