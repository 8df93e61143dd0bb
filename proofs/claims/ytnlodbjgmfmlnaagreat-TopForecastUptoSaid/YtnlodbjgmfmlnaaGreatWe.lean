/- A walk engine over abstract states, and the contracts of the functions that the statement reaches: part 5. -/
import Derived.Test.YtnlodbjgmfmlnaaGreatWd
set_option linter.unusedVariables false
set_option linter.unusedSimpArgs false
set_option linter.unnecessarySimpa false
namespace Go.Ab
open Go.RowKit Go.Proofs
set_option maxHeartbeats 8000000
set_option maxRecDepth 20000
attribute [local irreducible] WalkL Walk
def setB (n : Int) : Bool := withinB n 0 255
def batchB (goods : Int) (b : Batch) : Bool := withinB b.good 0 (goods - 1) && (withinB b.amount 0 1000000 && withinB b.last 0 30)
def needB (n : Int) : Bool := withinB n 0 5000
def dishB (goods : Int) (d : Dish) : Bool := ((d.needs.length : Int) == goods) && d.needs.all needB
def groupB (g : Diners) : Bool := setB g.no && (decide (0 ≤ g.count.lo) && (decide (g.count.lo ≤ g.count.hi) && decide (g.count.hi ≤ 100)))
def dayB (l : List Diners) : Bool := decide ((l.length : Int) ≤ 3) && l.all groupB
def badKit (k : Kitchen) : Bool := !withinB (k.allerg.length : Int) 1 6 || (!k.allerg.all setB || (decide ((k.batches.length : Int) > 10) || (!k.batches.all (batchB k.allerg.length) || (!withinB (k.dishes.length : Int) 1 5 || (!k.dishes.all (dishB k.allerg.length) || (!withinB (k.days.length : Int) 1 6 || !k.days.all dayB))))))
def kitE (k : Kitchen) : Int := if badKit k then 70 else 0
theorem zf170 (n lo hi : Int) : Fn Tryz.prog 170 [.i n, .i lo, .i hi] (.bool (withinB n lo hi)) := by
  unfold withinB
  refine fn_walk 15 Tryz.call170 Tryz.func170 rfl (by decide) fun J => ?_
  simp (maxSteps := 4000000) only [go_sem, St.start, Tryz.ntmps170, Tryz.results170]
  cases q : decide (lo ≤ n)
  · repeat (first | refine walkL_seq ?_ | refine walkL_skip ?_ | refine walkL_block ?_ | (refine walkL_region fun K hK => ?_; simp (maxSteps := 4000000) only [go_sem, q]; refine hK _ ?_; clear hK K) | refine walkL_nil ?_ | refine walkL_ret ?_ | refine walkL_exit ?_ | refine blockA_here ?_ | refine blockA_other rfl ?_ | refine blockA_ret ?_ | refine blockA_normal ?_ | refine thenA_ret ?_ | refine thenA_exit ?_ | refine thenA_normal ?_)
    simp (maxSteps := 4000000) only [go_sem, Bool.false_and]
  · repeat (first | refine walkL_seq ?_ | refine walkL_skip ?_ | refine walkL_block ?_ | (refine walkL_region fun K hK => ?_; simp (maxSteps := 4000000) only [go_sem, q]; refine hK _ ?_; clear hK K) | refine walkL_nil ?_ | refine walkL_ret ?_ | refine walkL_exit ?_ | refine blockA_here ?_ | refine blockA_other rfl ?_ | refine blockA_ret ?_ | refine blockA_normal ?_ | refine thenA_ret ?_ | refine thenA_exit ?_ | refine thenA_normal ?_)
    simp (maxSteps := 4000000) only [go_sem, Bool.true_and]
theorem zf175 (n : Int) : Fn Tryz.prog 175 [.i n] (.bool (setB n)) := by
  have h := zf170 n 0 255
  refine fn_walk 5 Tryz.call175 Tryz.func175 rfl (by decide) fun J => ?_
  simp (maxSteps := 4000000) only [go_sem, St.start, Tryz.ntmps175, Tryz.results175]
  repeat (first | refine walkL_seq ?_ | refine walkL_skip ?_ | refine walkL_block ?_ | (refine walkL_region fun K hK => ?_; simp (maxSteps := 4000000) only [go_sem]; (repeat (first | (refine ⟨_, .lent (hf := h) (hd := rfl) (hr := rfl), ?_⟩; simp (maxSteps := 4000000) only [go_sem]) | (refine ⟨_, .given (hf := h) (hd := rfl) (ha := rfl), ?_⟩; simp (maxSteps := 4000000) only [go_sem]))); refine hK _ ?_; clear hK K) | refine walkL_nil ?_ | refine walkL_ret ?_ | refine walkL_exit ?_ | refine blockA_here ?_ | refine blockA_other rfl ?_ | refine blockA_ret ?_ | refine blockA_normal ?_ | refine thenA_ret ?_ | refine thenA_exit ?_ | refine thenA_normal ?_)
  simp (maxSteps := 4000000) only [go_sem, setB]
theorem zf171 (n : Int) : Fn Tryz.prog 171 [.i n] (.bool (needB n)) := by
  have h := zf170 n 0 5000
  refine fn_walk 5 Tryz.call171 Tryz.func171 rfl (by decide) fun J => ?_
  simp (maxSteps := 4000000) only [go_sem, St.start, Tryz.ntmps171, Tryz.results171]
  repeat (first | refine walkL_seq ?_ | refine walkL_skip ?_ | refine walkL_block ?_ | (refine walkL_region fun K hK => ?_; simp (maxSteps := 4000000) only [go_sem]; (repeat (first | (refine ⟨_, .lent (hf := h) (hd := rfl) (hr := rfl), ?_⟩; simp (maxSteps := 4000000) only [go_sem]) | (refine ⟨_, .given (hf := h) (hd := rfl) (ha := rfl), ?_⟩; simp (maxSteps := 4000000) only [go_sem]))); refine hK _ ?_; clear hK K) | refine walkL_nil ?_ | refine walkL_ret ?_ | refine walkL_exit ?_ | refine blockA_here ?_ | refine blockA_other rfl ?_ | refine blockA_ret ?_ | refine blockA_normal ?_ | refine thenA_ret ?_ | refine thenA_exit ?_ | refine thenA_normal ?_)
  simp (maxSteps := 4000000) only [go_sem, needB]
theorem zf169 (goods : Int) (b : Batch) (hg : 0 ≤ goods ∧ goods < 2 ^ 30) : Fn Tryz.prog 169 [.agg b.row, .ptr [.i goods] 0] (.bool (batchB goods b)) := by
  have h1 := zf170 b.good 0 (goods - 1)
  have h2 := zf170 b.amount 0 1000000
  have h3 := zf170 b.last 0 30
  have w : IntKind.i64.wrap (goods - 1) = goods - 1 := wr_small (by omega)
  unfold batchB
  obtain ⟨b1, e1⟩ : ∃ x, x = withinB b.good 0 (goods - 1) := ⟨_, rfl⟩
  obtain ⟨b2, e2⟩ : ∃ x, x = withinB b.amount 0 1000000 := ⟨_, rfl⟩
  obtain ⟨b3, e3⟩ : ∃ x, x = withinB b.last 0 30 := ⟨_, rfl⟩
  rw [← e1] at h1 ⊢
  rw [← e2] at h2 ⊢
  rw [← e3] at h3 ⊢
  refine fn_walk 19 Tryz.call169 Tryz.func169 rfl (by decide) fun J => ?_
  simp (maxSteps := 4000000) only [go_sem, St.start, Tryz.ntmps169, Tryz.results169, Batch.row]
  cases b1 <;> cases b2
  all_goals
    repeat (first | refine walkL_seq ?_ | refine walkL_skip ?_ | refine walkL_block ?_ | (refine walkL_region fun K hK => ?_; simp (maxSteps := 4000000) only [go_sem, w]; (repeat (first | (refine ⟨_, .lent (hf := h1) (hd := rfl) (hr := rfl), ?_⟩; simp (maxSteps := 4000000) only [go_sem, w]) | (refine ⟨_, .lent (hf := h2) (hd := rfl) (hr := rfl), ?_⟩; simp (maxSteps := 4000000) only [go_sem, w]) | (refine ⟨_, .lent (hf := h3) (hd := rfl) (hr := rfl), ?_⟩; simp (maxSteps := 4000000) only [go_sem, w]) | (refine ⟨_, .given (hf := h1) (hd := rfl) (ha := rfl), ?_⟩; simp (maxSteps := 4000000) only [go_sem, w]) | (refine ⟨_, .given (hf := h2) (hd := rfl) (ha := rfl), ?_⟩; simp (maxSteps := 4000000) only [go_sem, w]) | (refine ⟨_, .given (hf := h3) (hd := rfl) (ha := rfl), ?_⟩; simp (maxSteps := 4000000) only [go_sem, w]))); refine hK _ ?_; clear hK K) | refine walkL_nil ?_ | refine walkL_ret ?_ | refine walkL_exit ?_ | refine blockA_here ?_ | refine blockA_other rfl ?_ | refine blockA_ret ?_ | refine blockA_normal ?_ | refine thenA_ret ?_ | refine thenA_exit ?_ | refine thenA_normal ?_)
    simp (maxSteps := 4000000) only [go_sem, Bool.false_and, Bool.true_and]
theorem zf172 (goods : Int) (d : Dish) (hd : d.needs.length < 2 ^ 30) : Fn Tryz.prog 172 [.agg d.row, .ptr [.i goods] 0, .ptr [.fn 171 []] 0] (.bool (dishB goods d)) := by
  have h := zf173 d.needs 171 [] needB (fun n _ => zf171 n) (by omega)
  unfold dishB
  obtain ⟨b1, e1⟩ : ∃ x, ((d.needs.length : Int) == goods) = x := ⟨_, rfl⟩
  rw [e1]
  refine fn_walk 16 Tryz.call172 Tryz.func172 rfl (by decide) fun J => ?_
  simp (maxSteps := 4000000) only [go_sem, St.start, Tryz.ntmps172, Tryz.results172, Dish.row]
  cases b1
  all_goals
    repeat (first | refine walkL_seq ?_ | refine walkL_skip ?_ | refine walkL_block ?_ | (refine walkL_region fun K hK => ?_; simp (maxSteps := 4000000) only [go_sem, e1]; (repeat (first | (refine ⟨_, .lent (hf := h) (hd := rfl) (hr := rfl), ?_⟩; simp (maxSteps := 4000000) only [go_sem, e1]) | (refine ⟨_, .given (hf := h) (hd := rfl) (ha := rfl), ?_⟩; simp (maxSteps := 4000000) only [go_sem, e1]))); refine hK _ ?_; clear hK K) | refine walkL_nil ?_ | refine walkL_ret ?_ | refine walkL_exit ?_ | refine blockA_here ?_ | refine blockA_other rfl ?_ | refine blockA_ret ?_ | refine blockA_normal ?_ | refine thenA_ret ?_ | refine thenA_exit ?_ | refine thenA_normal ?_)
    simp (maxSteps := 4000000) only [go_sem, Bool.false_and, Bool.true_and]
theorem zf174 (g : Diners) : Fn Tryz.prog 174 [.agg g.row] (.bool (groupB g)) := by
  have h := zf175 g.no
  unfold groupB
  obtain ⟨b1, e1⟩ : ∃ x, x = setB g.no := ⟨_, rfl⟩
  obtain ⟨b2, e2⟩ : ∃ x, decide (0 ≤ g.count.lo) = x := ⟨_, rfl⟩
  obtain ⟨b3, e3⟩ : ∃ x, decide (g.count.lo ≤ g.count.hi) = x := ⟨_, rfl⟩
  rw [← e1] at h ⊢
  rw [e2, e3]
  refine fn_walk 27 Tryz.call174 Tryz.func174 rfl (by decide) fun J => ?_
  simp (maxSteps := 4000000) only [go_sem, St.start, Tryz.ntmps174, Tryz.results174, Diners.row]
  cases b1 <;> cases b2 <;> cases b3
  all_goals
    repeat (first | refine walkL_seq ?_ | refine walkL_skip ?_ | refine walkL_block ?_ | (refine walkL_region fun K hK => ?_; simp (maxSteps := 4000000) only [go_sem, e2, e3]; (repeat (first | (refine ⟨_, .lent (hf := h) (hd := rfl) (hr := rfl), ?_⟩; simp (maxSteps := 4000000) only [go_sem, e2, e3]) | (refine ⟨_, .given (hf := h) (hd := rfl) (ha := rfl), ?_⟩; simp (maxSteps := 4000000) only [go_sem, e2, e3]))); refine hK _ ?_; clear hK K) | refine walkL_nil ?_ | refine walkL_ret ?_ | refine walkL_exit ?_ | refine blockA_here ?_ | refine blockA_other rfl ?_ | refine blockA_ret ?_ | refine blockA_normal ?_ | refine thenA_ret ?_ | refine thenA_exit ?_ | refine thenA_normal ?_)
    simp (maxSteps := 4000000) only [go_sem, Bool.false_and, Bool.true_and]
theorem zf176 (l : List Diners) (hl : l.length < 2 ^ 30) : Fn Tryz.prog 176 [.sl (dinRows l), .ptr [.fn 174 []] 0] (.bool (dayB l)) := by
  have h := zf177 l 174 [] groupB (fun g _ => zf174 g) (by omega)
  unfold dayB
  obtain ⟨b1, e1⟩ : ∃ x, decide ((l.length : Int) ≤ 3) = x := ⟨_, rfl⟩
  rw [e1]
  refine fn_walk 12 Tryz.call176 Tryz.func176 rfl (by decide) fun J => ?_
  simp (maxSteps := 4000000) only [go_sem, St.start, Tryz.ntmps176, Tryz.results176]
  cases b1
  all_goals
    repeat (first | refine walkL_seq ?_ | refine walkL_skip ?_ | refine walkL_block ?_ | (refine walkL_region fun K hK => ?_; simp (maxSteps := 4000000) only [go_sem, e1]; (repeat (first | (refine ⟨_, .lent (hf := h) (hd := rfl) (hr := rfl), ?_⟩; simp (maxSteps := 4000000) only [go_sem, e1]) | (refine ⟨_, .given (hf := h) (hd := rfl) (ha := rfl), ?_⟩; simp (maxSteps := 4000000) only [go_sem, e1]))); refine hK _ ?_; clear hK K) | refine walkL_nil ?_ | refine walkL_ret ?_ | refine walkL_exit ?_ | refine blockA_here ?_ | refine blockA_other rfl ?_ | refine blockA_ret ?_ | refine blockA_normal ?_ | refine thenA_ret ?_ | refine thenA_exit ?_ | refine thenA_normal ?_)
    simp (maxSteps := 4000000) only [go_sem, Bool.false_and, Bool.true_and]
theorem zf135 (k : Kitchen) (hs : KitSmall k) : Fn Tryz.prog 135 [.agg k.cells] (.i (kitE k)) := by
  have a1 := hs.allerg
  have h1 := zf170 (k.allerg.length : Int) 1 6
  have h2 := zf173 k.allerg 175 [] setB (fun n _ => zf175 n) (by omega)
  have h4 := zf178 k.batches 169 [.ptr [.i (k.allerg.length : Int)] 0] (batchB k.allerg.length) (fun b _ => zf169 _ b (by omega)) (by have := hs.batches; omega)
  have h5 := zf170 (k.dishes.length : Int) 1 5
  have h6 := zf179 k.dishes 172 [.ptr [.i (k.allerg.length : Int)] 0, .ptr [.fn 171 []] 0] (dishB k.allerg.length) (fun d hd => zf172 _ d (hs.needs d hd)) (by have := hs.dishes; omega)
  have h7 := zf170 (k.days.length : Int) 1 6
  have h8 := zf180 k.days 176 [.ptr [.fn 174 []] 0] dayB (fun d hd => zf176 d (hs.groups d hd)) (by have := hs.days; omega)
  unfold kitE
  refine fn_walk 65 Tryz.call135 Tryz.func135 rfl (by decide) fun J => ?_
  simp (maxSteps := 4000000) only [go_sem, St.start, Tryz.ntmps135, Tryz.results135, Kitchen.cells]
  repeat (first | refine walkL_seq ?_ | refine walkL_skip ?_ | refine walkL_block ?_ | (refine walkL_region fun K hK => ?_; simp (maxSteps := 4000000) only [go_sem]; refine hK _ ?_; clear hK K) | refine walkL_nil ?_ | refine walkL_ret ?_ | refine walkL_exit ?_ | refine blockA_here ?_ | refine blockA_other rfl ?_ | refine blockA_ret ?_ | refine blockA_normal ?_ | refine thenA_ret ?_ | refine thenA_exit ?_ | refine thenA_normal ?_)
  refine walkL_meetS [(64, .d (.bool (badKit k)))] [] ?_ ?_
  · refine walkL_region fun K hK => ?_
    simp (maxSteps := 4000000) only [go_sem]
    refine ⟨_, .lent (hf := h1) (hd := rfl) (hr := rfl), ?_⟩
    simp (maxSteps := 4000000) only [go_sem]
    by_cases ho0 : (!withinB (k.allerg.length : Int) 1 6) = true
    · simp (maxSteps := 4000000) only [go_sem, ho0]
      refine hK _ ?_
      clear hK K
      refine walkL_nil ?_
      refine thenA_normal ?_
      refine ⟨rfl, ?_⟩
      rw [show (badKit k) = (true) from by simp [badKit, ho0]]
      simp (maxSteps := 4000000) only [go_sem]
      refine weak_of [] ?_ ?_ rfl rfl <;> simp [lessT, lessM, lessB, AV.less]
    · simp (maxSteps := 4000000) only [go_sem, ho0]
      refine ⟨_, .lent (hf := h2) (hd := rfl) (hr := rfl), ?_⟩
      simp (maxSteps := 4000000) only [go_sem, ho0]
      by_cases ho1 : (!k.allerg.all setB) = true
      · simp (maxSteps := 4000000) only [go_sem, ho0, ho1]
        refine hK _ ?_
        clear hK K
        refine walkL_nil ?_
        refine thenA_normal ?_
        refine ⟨rfl, ?_⟩
        rw [show (badKit k) = (true) from by simp [badKit, ho0, ho1]]
        simp (maxSteps := 4000000) only [go_sem]
        refine weak_of [] ?_ ?_ rfl rfl <;> simp [lessT, lessM, lessB, AV.less]
      · simp (maxSteps := 4000000) only [go_sem, ho0, ho1]
        by_cases ho2 : (decide ((k.batches.length : Int) > 10)) = true
        · simp (maxSteps := 4000000) only [go_sem, ho0, ho1, ho2]
          refine hK _ ?_
          clear hK K
          refine walkL_nil ?_
          refine thenA_normal ?_
          refine ⟨rfl, ?_⟩
          rw [show (badKit k) = (true) from by simp [badKit, ho0, ho1, ho2]]
          simp (maxSteps := 4000000) only [go_sem]
          refine weak_of [] ?_ ?_ rfl rfl <;> simp [lessT, lessM, lessB, AV.less]
        · simp (maxSteps := 4000000) only [go_sem, ho0, ho1, ho2]
          refine ⟨_, .lent (hf := h4) (hd := rfl) (hr := rfl), ?_⟩
          simp (maxSteps := 4000000) only [go_sem, ho0, ho1, ho2]
          by_cases ho3 : (!k.batches.all (batchB k.allerg.length)) = true
          · simp (maxSteps := 4000000) only [go_sem, ho0, ho1, ho2, ho3]
            refine hK _ ?_
            clear hK K
            refine walkL_nil ?_
            refine thenA_normal ?_
            refine ⟨rfl, ?_⟩
            rw [show (badKit k) = (true) from by simp [badKit, ho0, ho1, ho2, ho3]]
            simp (maxSteps := 4000000) only [go_sem]
            refine weak_of [] ?_ ?_ rfl rfl <;> simp [lessT, lessM, lessB, AV.less]
          · simp (maxSteps := 4000000) only [go_sem, ho0, ho1, ho2, ho3]
            refine ⟨_, .lent (hf := h5) (hd := rfl) (hr := rfl), ?_⟩
            simp (maxSteps := 4000000) only [go_sem, ho0, ho1, ho2, ho3]
            by_cases ho4 : (!withinB (k.dishes.length : Int) 1 5) = true
            · simp (maxSteps := 4000000) only [go_sem, ho0, ho1, ho2, ho3, ho4]
              refine hK _ ?_
              clear hK K
              refine walkL_nil ?_
              refine thenA_normal ?_
              refine ⟨rfl, ?_⟩
              rw [show (badKit k) = (true) from by simp [badKit, ho0, ho1, ho2, ho3, ho4]]
              simp (maxSteps := 4000000) only [go_sem]
              refine weak_of [] ?_ ?_ rfl rfl <;> simp [lessT, lessM, lessB, AV.less]
            · simp (maxSteps := 4000000) only [go_sem, ho0, ho1, ho2, ho3, ho4]
              refine ⟨_, .lent (hf := h6) (hd := rfl) (hr := rfl), ?_⟩
              simp (maxSteps := 4000000) only [go_sem, ho0, ho1, ho2, ho3, ho4]
              by_cases ho5 : (!k.dishes.all (dishB k.allerg.length)) = true
              · simp (maxSteps := 4000000) only [go_sem, ho0, ho1, ho2, ho3, ho4, ho5]
                refine hK _ ?_
                clear hK K
                refine walkL_nil ?_
                refine thenA_normal ?_
                refine ⟨rfl, ?_⟩
                rw [show (badKit k) = (true) from by simp [badKit, ho0, ho1, ho2, ho3, ho4, ho5]]
                simp (maxSteps := 4000000) only [go_sem]
                refine weak_of [] ?_ ?_ rfl rfl <;> simp [lessT, lessM, lessB, AV.less]
              · simp (maxSteps := 4000000) only [go_sem, ho0, ho1, ho2, ho3, ho4, ho5]
                refine ⟨_, .lent (hf := h7) (hd := rfl) (hr := rfl), ?_⟩
                simp (maxSteps := 4000000) only [go_sem, ho0, ho1, ho2, ho3, ho4, ho5]
                by_cases ho6 : (!withinB (k.days.length : Int) 1 6) = true
                · simp (maxSteps := 4000000) only [go_sem, ho0, ho1, ho2, ho3, ho4, ho5, ho6]
                  refine hK _ ?_
                  clear hK K
                  refine walkL_nil ?_
                  refine thenA_normal ?_
                  refine ⟨rfl, ?_⟩
                  rw [show (badKit k) = (true) from by simp [badKit, ho0, ho1, ho2, ho3, ho4, ho5, ho6]]
                  simp (maxSteps := 4000000) only [go_sem]
                  refine weak_of [] ?_ ?_ rfl rfl <;> simp [lessT, lessM, lessB, AV.less]
                · simp (maxSteps := 4000000) only [go_sem, ho0, ho1, ho2, ho3, ho4, ho5, ho6]
                  refine ⟨_, .lent (hf := h8) (hd := rfl) (hr := rfl), ?_⟩
                  simp (maxSteps := 4000000) only [go_sem, ho0, ho1, ho2, ho3, ho4, ho5, ho6]
                  refine hK _ ?_
                  clear hK K
                  refine walkL_nil ?_
                  refine thenA_normal ?_
                  refine ⟨rfl, ?_⟩
                  rw [show (badKit k) = (!k.days.all dayB) from by simp [badKit, ho0, ho1, ho2, ho3, ho4, ho5, ho6]]
                  simp (maxSteps := 4000000) only [go_sem]
                  refine weak_of [] ?_ ?_ rfl rfl <;> simp [lessT, lessM, lessB, AV.less]
  simp (maxSteps := 4000000) only [go_sem]
  repeat (first | refine walkL_seq ?_ | refine walkL_skip ?_ | refine walkL_block ?_ | (refine walkL_region fun K hK => ?_; simp (maxSteps := 4000000) only [go_sem]; refine hK _ ?_; clear hK K) | refine walkL_nil ?_ | refine walkL_ret ?_ | refine walkL_exit ?_ | refine blockA_here ?_ | refine blockA_other rfl ?_ | refine blockA_ret ?_ | refine blockA_normal ?_ | refine thenA_ret ?_ | refine thenA_exit ?_ | refine thenA_normal ?_)
  refine walkL_cond rfl (fun hc => ?_) (fun hc => ?_)
  · rw [hc]
    repeat (first | refine walkL_seq ?_ | refine walkL_skip ?_ | refine walkL_block ?_ | (refine walkL_region fun K hK => ?_; simp (maxSteps := 4000000) only [go_sem]; refine hK _ ?_; clear hK K) | refine walkL_nil ?_ | refine walkL_ret ?_ | refine walkL_exit ?_ | refine blockA_here ?_ | refine blockA_other rfl ?_ | refine blockA_ret ?_ | refine blockA_normal ?_ | refine thenA_ret ?_ | refine thenA_exit ?_ | refine thenA_normal ?_)
    simp (maxSteps := 4000000) only [go_sem, if_true]
  · rw [hc]
    repeat (first | refine walkL_seq ?_ | refine walkL_skip ?_ | refine walkL_block ?_ | (refine walkL_region fun K hK => ?_; simp (maxSteps := 4000000) only [go_sem]; refine hK _ ?_; clear hK K) | refine walkL_nil ?_ | refine walkL_ret ?_ | refine walkL_exit ?_ | refine blockA_here ?_ | refine blockA_other rfl ?_ | refine blockA_ret ?_ | refine blockA_normal ?_ | refine thenA_ret ?_ | refine thenA_exit ?_ | refine thenA_normal ?_)
    simp (maxSteps := 4000000) only [go_sem, Bool.false_eq_true, if_false]
end Go.Ab
namespace Go.Ab
open Go.RowKit Go.Proofs
set_option maxHeartbeats 8000000
set_option maxRecDepth 20000
attribute [local irreducible] WalkL Walk
def badGood (a : List Int) (needs : List Int) (no : Int) (i : Nat) : Bool := decide (getI needs (i : Int) > 0) && (bAnd .i64 (getI a (i : Int)) no != 0)
def suitTo (a : List Int) (needs : List Int) (no : Int) : Nat → Bool
  | 0 => true
  | i + 1 => suitTo a needs no i && !badGood a needs no i
def noDish : Dish := ⟨[]⟩
def dishAt (k : Kitchen) (n : Int) : Dish := k.dishes.getD n.toNat noDish
def suitsB (k : Kitchen) (n : Int) (no : Int) : Bool := suitTo k.allerg (dishAt k n).needs no (dishAt k n).needs.length
theorem suitTo_stop {a needs : List Int} {no : Int} {i : Nat} (h : badGood a needs no i = true) : ∀ {m : Nat}, i < m → suitTo a needs no m = false := by
  intro m hm
  induction hm with
  | refl => rw [suitTo, h]; simp
  | step _ ih => rw [suitTo, ih]; rfl
theorem intRows_getI {l : List Int} {i : Nat} (h : i < l.length) : (intRows l)[i]? = some [.i (getI l (i : Int))] := by
  obtain ⟨x, hx⟩ : ∃ x, l[i]? = some x := ⟨_, List.getElem?_eq_getElem h⟩
  rw [intRows_at hx, getI, Int.toNat_natCast, List.getD, hx]
  rfl
theorem dish_at {k : Kitchen} {n : Nat} (h : n < k.dishes.length) : (dishRows k.dishes)[n]? = some [.sl (intRows (dishAt k (n : Int)).needs)] := by
  obtain ⟨x, hx⟩ : ∃ x, k.dishes[n]? = some x := ⟨_, List.getElem?_eq_getElem h⟩
  rw [dishRows_at hx, dishAt, Int.toNat_natCast, List.getD, hx]
  rfl
structure KitGood (k : Kitchen) : Prop where
  goods : 1 ≤ k.allerg.length ∧ k.allerg.length ≤ 6
  allerg : ∀ n ∈ k.allerg, 0 ≤ n ∧ n ≤ 255
  batches : k.batches.length ≤ 10
  batch : ∀ b ∈ k.batches, (0 ≤ b.good ∧ b.good < k.allerg.length) ∧ (0 ≤ b.amount ∧ b.amount ≤ 1000000) ∧ (0 ≤ b.last ∧ b.last ≤ 30)
  dishes : 1 ≤ k.dishes.length ∧ k.dishes.length ≤ 5
  needs : ∀ d ∈ k.dishes, d.needs.length = k.allerg.length ∧ ∀ n ∈ d.needs, 0 ≤ n ∧ n ≤ 5000
  days : 1 ≤ k.days.length ∧ k.days.length ≤ 6
  groups : ∀ d ∈ k.days, d.length ≤ 3 ∧ ∀ g ∈ d, (0 ≤ g.no ∧ g.no ≤ 255) ∧ (0 ≤ g.count.lo ∧ g.count.lo ≤ g.count.hi ∧ g.count.hi ≤ 100)
theorem kit_good {k : Kitchen} (h : badKit k = false) : KitGood k := by
  simp only [badKit, Bool.or_eq_false_iff, Bool.not_eq_false', decide_eq_false_iff_not, List.all_eq_true] at h
  obtain ⟨h1, h2, h3, h4, h5, h6, h7, h8⟩ := h
  have h1 := within_iff.1 h1
  have h5 := within_iff.1 h5
  have h7 := within_iff.1 h7
  refine ⟨by omega, fun n hn => within_iff.1 (h2 n hn), by omega, fun b hb => ?_, by omega, fun d hd => ?_, by omega, fun d hd => ?_⟩
  · have := h4 b hb
    simp only [batchB, Bool.and_eq_true] at this
    have q1 := within_iff.1 this.1
    exact ⟨by omega, within_iff.1 this.2.1, within_iff.1 this.2.2⟩
  · have := h6 d hd
    simp only [dishB, Bool.and_eq_true, beq_iff_eq, List.all_eq_true] at this
    exact ⟨by omega, fun n hn => within_iff.1 (this.2 n hn)⟩
  · have := h8 d hd
    simp only [dayB, Bool.and_eq_true, decide_eq_true_eq, List.all_eq_true] at this
    refine ⟨by omega, fun g hg => ?_⟩
    have := this.2 g hg
    simp only [groupB, Bool.and_eq_true, decide_eq_true_eq] at this
    exact ⟨within_iff.1 this.1, this.2⟩
theorem kitE_zero {k : Kitchen} : kitE k = 0 ↔ badKit k = false := by
  unfold kitE
  cases badKit k <;> simp
theorem dish_len {k : Kitchen} (hg : KitGood k) {n : Nat} (h : n < k.dishes.length) : (dishAt k (n : Int)).needs.length = k.allerg.length := by
  obtain ⟨x, hx⟩ : ∃ x, k.dishes[n]? = some x := ⟨_, List.getElem?_eq_getElem h⟩
  have : dishAt k (n : Int) = x := by rw [dishAt, Int.toNat_natCast, List.getD, hx]; rfl
  rw [this]
  exact (hg.needs x (List.mem_of_getElem? hx)).1
theorem zf181 (k : Kitchen) (hg : KitGood k) (n : Nat) (no : Int) (hn : n < k.dishes.length) : Fn Tryz.prog 181 [.agg k.cells, .i (n : Int), .i no] (.bool (suitsB k (n : Int) no)) := by
  have gd := dish_at hn
  have hl := dish_len hg hn
  have hgo := hg.goods
  have hnn : ¬ ((n : Int) < 0) := by omega
  unfold suitsB
  obtain ⟨N, hN⟩ : ∃ N, N = (dishAt k (n : Int)).needs := ⟨_, rfl⟩
  rw [← hN] at gd hl ⊢
  refine fn_walk 36 Tryz.call181 Tryz.func181 rfl (by decide) fun J => ?_
  simp (maxSteps := 4000000) only [go_sem, St.start, Tryz.ntmps181, Tryz.results181, Kitchen.cells]
  repeat (first | refine walkL_seq ?_ | refine walkL_skip ?_ | refine walkL_block ?_ | (refine walkL_region fun K hK => ?_; simp (maxSteps := 4000000) only [go_sem, gd, hnn]; refine hK _ ?_; clear hK K) | refine walkL_nil ?_ | refine walkL_ret ?_ | refine walkL_exit ?_ | refine blockA_here ?_ | refine blockA_other rfl ?_ | refine blockA_ret ?_ | refine blockA_normal ?_ | refine thenA_ret ?_ | refine thenA_exit ?_ | refine thenA_normal ?_)
  refine walkL_loopS (fun (i : Nat) => [(17, .d (.i (i : Int)))]) (fun _ => []) (fun i => i ≤ N.length ∧ suitTo k.allerg N no i = true) (fun i => N.length - i) 0 ?_ ⟨Nat.zero_le _, rfl⟩ ?_
  · simp (maxSteps := 4000000) only [go_sem]
    refine weak_of [] ?_ ?_ rfl rfl <;> simp [lessT, lessM, lessB, AV.less]
  · rintro i ⟨hi, hs⟩
    simp (maxSteps := 4000000) only [go_sem]
    repeat (first | refine walkL_seq ?_ | refine walkL_skip ?_ | refine walkL_block ?_ | (refine walkL_region fun K hK => ?_; simp (maxSteps := 4000000) only [go_sem]; refine hK _ ?_; clear hK K) | refine walkL_nil ?_ | refine walkL_ret ?_ | refine walkL_exit ?_ | refine blockA_here ?_ | refine blockA_other rfl ?_ | refine blockA_ret ?_ | refine blockA_normal ?_ | refine thenA_ret ?_ | refine thenA_exit ?_ | refine thenA_normal ?_)
    refine walkL_cond rfl (fun hb => ?_) (fun hb => ?_)
    · have hlt : i < N.length := by simpa using hb
      have hw : IntKind.i64.wrap ((i : Int) + 1) = ((i + 1 : Nat) : Int) := by rw [wr_small (by omega)]; simp
      have g1 := intRows_getI hlt
      have g2 := intRows_getI (l := k.allerg) (i := i) (by omega)
      have hni : ¬ ((i : Int) < 0) := by omega
      cases q1 : decide (getI N (i : Int) > 0)
      · have hbg : badGood k.allerg N no i = false := by rw [badGood, q1]; rfl
        repeat (first | refine walkL_true rfl ?_ | refine walkL_false rfl ?_ | refine walkL_seq ?_ | refine walkL_skip ?_ | refine walkL_block ?_ | (refine walkL_region fun K hK => ?_; simp (maxSteps := 4000000) only [go_sem, g1, q1, hw]; refine hK _ ?_; clear hK K) | refine walkL_nil ?_ | refine walkL_ret ?_ | refine walkL_exit ?_ | refine blockA_here ?_ | refine blockA_other rfl ?_ | refine blockA_ret ?_ | refine blockA_normal ?_ | refine thenA_ret ?_ | refine thenA_exit ?_ | refine thenA_normal ?_)
        refine ⟨rfl, i + 1, ?_, ⟨hlt, by rw [suitTo, hs, hbg]; rfl⟩, by omega⟩
        refine weak_of [] ?_ ?_ rfl rfl <;> simp [lessT, lessM, lessB, AV.less]
      · cases q2 : (bAnd .i64 (getI k.allerg (i : Int)) no != 0)
        · have hbg : badGood k.allerg N no i = false := by rw [badGood, q2, Bool.and_false]
          repeat (first | refine walkL_true rfl ?_ | refine walkL_false rfl ?_ | refine walkL_seq ?_ | refine walkL_skip ?_ | refine walkL_block ?_ | (refine walkL_region fun K hK => ?_; simp (maxSteps := 4000000) only [go_sem, g1, g2, q1, q2, hni, hw]; refine hK _ ?_; clear hK K) | refine walkL_nil ?_ | refine walkL_ret ?_ | refine walkL_exit ?_ | refine blockA_here ?_ | refine blockA_other rfl ?_ | refine blockA_ret ?_ | refine blockA_normal ?_ | refine thenA_ret ?_ | refine thenA_exit ?_ | refine thenA_normal ?_)
          refine ⟨rfl, i + 1, ?_, ⟨hlt, by rw [suitTo, hs, hbg]; rfl⟩, by omega⟩
          refine weak_of [] ?_ ?_ rfl rfl <;> simp [lessT, lessM, lessB, AV.less]
        · have hbg : badGood k.allerg N no i = true := by rw [badGood, q1, q2]; rfl
          rw [suitTo_stop hbg hlt]
          repeat (first | refine walkL_true rfl ?_ | refine walkL_false rfl ?_ | refine walkL_seq ?_ | refine walkL_skip ?_ | refine walkL_block ?_ | (refine walkL_region fun K hK => ?_; simp (maxSteps := 4000000) only [go_sem, g1, g2, q1, q2, hni]; refine hK _ ?_; clear hK K) | refine walkL_nil ?_ | refine walkL_ret ?_ | refine walkL_exit ?_ | refine blockA_here ?_ | refine blockA_other rfl ?_ | refine blockA_ret ?_ | refine blockA_normal ?_ | refine thenA_ret ?_ | refine thenA_exit ?_ | refine thenA_normal ?_)
          simp (maxSteps := 4000000) only [go_sem]
    · have he : i = N.length := by (have : ¬ i < N.length := by simpa using hb); omega
      subst he
      rw [hs]
      repeat (first | refine walkL_seq ?_ | refine walkL_skip ?_ | refine walkL_block ?_ | (refine walkL_region fun K hK => ?_; simp (maxSteps := 4000000) only [go_sem]; refine hK _ ?_; clear hK K) | refine walkL_nil ?_ | refine walkL_ret ?_ | refine walkL_exit ?_ | refine blockA_here ?_ | refine blockA_other rfl ?_ | refine blockA_ret ?_ | refine blockA_normal ?_ | refine thenA_ret ?_ | refine thenA_exit ?_ | refine thenA_normal ?_)
      simp (maxSteps := 4000000) only [go_sem]
def menuB (k : Kitchen) (n : Int) (g : Diners) : Bool := withinB n 0 ((k.dishes.length : Int) - 1) && suitsB k n g.no
theorem zf137 (k : Kitchen) (hg : KitGood k) (n : Int) (g : Diners) : Fn Tryz.prog 137 [.agg k.cells, .i n, .agg g.row] (.bool (menuB k n g)) := by
  have hd := hg.dishes
  have h1 := zf170 n 0 ((k.dishes.length : Int) - 1)
  have w : IntKind.i64.wrap ((k.dishes.length : Int) - 1) = (k.dishes.length : Int) - 1 := wr_small (by omega)
  unfold menuB
  cases q : withinB n 0 ((k.dishes.length : Int) - 1)
  · rw [q] at h1
    refine fn_walk 21 Tryz.call137 Tryz.func137 rfl (by decide) fun J => ?_
    simp (maxSteps := 4000000) only [go_sem, St.start, Tryz.ntmps137, Tryz.results137, Kitchen.cells, Diners.row]
    repeat (first | refine walkL_seq ?_ | refine walkL_skip ?_ | refine walkL_block ?_ | (refine walkL_region fun K hK => ?_; simp (maxSteps := 4000000) only [go_sem, w]; (repeat (first | (refine ⟨_, .lent (hf := h1) (hd := rfl) (hr := rfl), ?_⟩; simp (maxSteps := 4000000) only [go_sem, w]) | (refine ⟨_, .given (hf := h1) (hd := rfl) (ha := rfl), ?_⟩; simp (maxSteps := 4000000) only [go_sem, w]))); refine hK _ ?_; clear hK K) | refine walkL_nil ?_ | refine walkL_ret ?_ | refine walkL_exit ?_ | refine blockA_here ?_ | refine blockA_other rfl ?_ | refine blockA_ret ?_ | refine blockA_normal ?_ | refine thenA_ret ?_ | refine thenA_exit ?_ | refine thenA_normal ?_)
    simp (maxSteps := 4000000) only [go_sem, Bool.false_and]
  · rw [q] at h1
    have r := within_iff.1 q
    obtain ⟨m, rfl⟩ : ∃ m : Nat, n = m := ⟨n.toNat, by omega⟩
    have h2 := zf181 k hg m g.no (by omega)
    rw [Kitchen.cells] at h2
    refine fn_walk 21 Tryz.call137 Tryz.func137 rfl (by decide) fun J => ?_
    simp (maxSteps := 4000000) only [go_sem, St.start, Tryz.ntmps137, Tryz.results137, Kitchen.cells, Diners.row]
    repeat (first | refine walkL_seq ?_ | refine walkL_skip ?_ | refine walkL_block ?_ | (refine walkL_region fun K hK => ?_; simp (maxSteps := 4000000) only [go_sem, w]; (repeat (first | (refine ⟨_, .lent (hf := h1) (hd := rfl) (hr := rfl), ?_⟩; simp (maxSteps := 4000000) only [go_sem, w]) | (refine ⟨_, .lent (hf := h2) (hd := rfl) (hr := rfl), ?_⟩; simp (maxSteps := 4000000) only [go_sem, w]) | (refine ⟨_, .given (hf := h1) (hd := rfl) (ha := rfl), ?_⟩; simp (maxSteps := 4000000) only [go_sem, w]) | (refine ⟨_, .given (hf := h2) (hd := rfl) (ha := rfl), ?_⟩; simp (maxSteps := 4000000) only [go_sem, w]))); refine hK _ ?_; clear hK K) | refine walkL_nil ?_ | refine walkL_ret ?_ | refine walkL_exit ?_ | refine blockA_here ?_ | refine blockA_other rfl ?_ | refine blockA_ret ?_ | refine blockA_normal ?_ | refine thenA_ret ?_ | refine thenA_exit ?_ | refine thenA_normal ?_)
    simp (maxSteps := 4000000) only [go_sem, Bool.true_and]
def rowOk (q : Int → Diners → Bool) : List Int → List Diners → Bool
  | [], [] => true
  | n :: l, g :: gs => q n g && rowOk q l gs
  | _, _ => false
def shapedB (q : Int → Diners → Bool) : List (List Int) → List (List Diners) → Bool
  | [], [] => true
  | r :: l, d :: ds => rowOk q r d && shapedB q l ds
  | _, _ => false
theorem rowOk_len {q : Int → Diners → Bool} : ∀ {l : List Int} {d : List Diners}, rowOk q l d = true → l.length = d.length
  | [], [], _ => rfl
  | _ :: l, _ :: d, h => by
    rw [rowOk, Bool.and_eq_true] at h
    simp [rowOk_len h.2]
  | [], _ :: _, h => by cases h
  | _ :: _, [], h => by cases h
theorem shaped_len {q : Int → Diners → Bool} : ∀ {l : List (List Int)} {d : List (List Diners)}, shapedB q l d = true → l.length = d.length
  | [], [], _ => rfl
  | _ :: l, _ :: d, h => by
    rw [shapedB, Bool.and_eq_true] at h
    simp [shaped_len h.2]
  | [], _ :: _, h => by cases h
  | _ :: _, [], h => by cases h
theorem zf136m (k : Kitchen) (hg : KitGood k) (M : List (List Int)) (hM : M.length < 2 ^ 30) (hMr : ∀ r ∈ M, r.length < 2 ^ 30) : Fn Tryz.prog 136 [.agg k.cells, .sl (listRows M), .bnd 137 [.agg k.cells]] (.bool (shapedB (menuB k) M k.days)) := by
  have hdd := hg.days
  have hgr := hg.groups
  obtain ⟨q, hq⟩ : ∃ q, q = menuB k := ⟨_, rfl⟩
  have h137 := fun (n : Int) (g : Diners) => zf137 k hg n g
  simp only [← hq] at h137
  rw [← hq]
  rw [Kitchen.cells] at h137
  obtain ⟨R, hR⟩ : ∃ R, R = shapedB q M k.days := ⟨_, rfl⟩
  rw [← hR]
  cases q1 : ((M.length : Int) != (k.days.length : Int))
  · have hl : M.length = k.days.length := by
      simp only [bne_eq_false_iff_eq] at q1
      omega
    refine fn_walk 55 Tryz.call136 Tryz.func136 rfl (by decide) fun J => ?_
    simp (maxSteps := 4000000) only [go_sem, St.start, Tryz.ntmps136, Tryz.results136, Kitchen.cells]
    repeat (first | refine walkL_true rfl ?_ | refine walkL_false rfl ?_ | refine walkL_seq ?_ | refine walkL_skip ?_ | refine walkL_block ?_ | (refine walkL_region fun K hK => ?_; simp (maxSteps := 4000000) only [go_sem, q1]; refine hK _ ?_; clear hK K) | refine walkL_nil ?_ | refine walkL_ret ?_ | refine walkL_exit ?_ | refine blockA_here ?_ | refine blockA_other rfl ?_ | refine blockA_ret ?_ | refine blockA_normal ?_ | refine thenA_ret ?_ | refine thenA_exit ?_ | refine thenA_normal ?_)
    refine walkL_loopS (fun (i : Nat) => [(22, .d (.i (i : Int)))]) (fun _ => []) (fun i => i ≤ k.days.length ∧ R = shapedB q (M.drop i) (k.days.drop i)) (fun i => k.days.length - i) 0 ?_ ⟨Nat.zero_le _, hR⟩ ?_
    · simp (maxSteps := 4000000) only [go_sem]
      refine weak_of [] ?_ ?_ rfl rfl <;> simp [lessT, lessM, lessB, AV.less]
    · rintro i ⟨hi, hRi⟩
      simp (maxSteps := 4000000) only [go_sem]
      repeat (first | refine walkL_seq ?_ | refine walkL_skip ?_ | refine walkL_block ?_ | (refine walkL_region fun K hK => ?_; simp (maxSteps := 4000000) only [go_sem]; refine hK _ ?_; clear hK K) | refine walkL_nil ?_ | refine walkL_ret ?_ | refine walkL_exit ?_ | refine blockA_here ?_ | refine blockA_other rfl ?_ | refine blockA_ret ?_ | refine blockA_normal ?_ | refine thenA_ret ?_ | refine thenA_exit ?_ | refine thenA_normal ?_)
      refine walkL_cond rfl (fun hb => ?_) (fun hb => ?_)
      · have hlt : i < k.days.length := by simpa using hb
        have hw : IntKind.i64.wrap ((i : Int) + 1) = ((i + 1 : Nat) : Int) := by rw [wr_small (by omega)]; simp
        obtain ⟨d, hd⟩ : ∃ d, k.days[i]? = some d := ⟨_, List.getElem?_eq_getElem hlt⟩
        obtain ⟨r, hr⟩ : ∃ r, M[i]? = some r := ⟨_, List.getElem?_eq_getElem (by omega)⟩
        have g1 := dayRows_at hd
        have g2 := listRows_at hr
        have hni : ¬ ((i : Int) < 0) := by omega
        have hd3 := (hgr d (List.mem_of_getElem? hd)).1
        rw [drop_get hd, drop_get hr, shapedB] at hRi
        cases q2 : ((r.length : Int) != (d.length : Int))
        · have hrl : r.length = d.length := by
            simp only [bne_eq_false_iff_eq] at q2
            omega
          repeat (first | refine walkL_true rfl ?_ | refine walkL_false rfl ?_ | refine walkL_seq ?_ | refine walkL_skip ?_ | refine walkL_block ?_ | (refine walkL_region fun K hK => ?_; simp (maxSteps := 4000000) only [go_sem, g1, g2, hni, q2]; refine hK _ ?_; clear hK K) | refine walkL_nil ?_ | refine walkL_ret ?_ | refine walkL_exit ?_ | refine blockA_here ?_ | refine blockA_other rfl ?_ | refine blockA_ret ?_ | refine blockA_normal ?_ | refine thenA_ret ?_ | refine thenA_exit ?_ | refine thenA_normal ?_)
          refine walkL_loopS (fun (j : Nat) => [(37, .d (.i (j : Int)))]) (fun _ => []) (fun j => j ≤ d.length ∧ R = (rowOk q (r.drop j) (d.drop j) && shapedB q (M.drop (i + 1)) (k.days.drop (i + 1)))) (fun j => d.length - j) 0 ?_ ⟨Nat.zero_le _, hRi⟩ ?_
          · simp (maxSteps := 4000000) only [go_sem]
            refine weak_of [] ?_ ?_ rfl rfl <;> simp [lessT, lessM, lessB, AV.less]
          · rintro j ⟨hj, hRj⟩
            simp (maxSteps := 4000000) only [go_sem]
            repeat (first | refine walkL_seq ?_ | refine walkL_skip ?_ | refine walkL_block ?_ | (refine walkL_region fun K hK => ?_; simp (maxSteps := 4000000) only [go_sem]; refine hK _ ?_; clear hK K) | refine walkL_nil ?_ | refine walkL_ret ?_ | refine walkL_exit ?_ | refine blockA_here ?_ | refine blockA_other rfl ?_ | refine blockA_ret ?_ | refine blockA_normal ?_ | refine thenA_ret ?_ | refine thenA_exit ?_ | refine thenA_normal ?_)
            refine walkL_cond rfl (fun hb => ?_) (fun hb => ?_)
            · have hltj : j < d.length := by simpa using hb
              have hwj : IntKind.i64.wrap ((j : Int) + 1) = ((j + 1 : Nat) : Int) := by rw [wr_small (by omega)]; simp
              obtain ⟨g, hgj⟩ : ∃ g, d[j]? = some g := ⟨_, List.getElem?_eq_getElem hltj⟩
              obtain ⟨n, hnj⟩ : ∃ n, r[j]? = some n := ⟨_, List.getElem?_eq_getElem (by omega)⟩
              have g3 := dinRows_at hgj
              have g4 := intRows_at hnj
              rw [Diners.row] at g3
              have hnjj : ¬ ((j : Int) < 0) := by omega
              have hc := h137 n g
              rw [Diners.row] at hc
              rw [drop_get hgj, drop_get hnj, rowOk] at hRj
              cases q3 : q n g
              · rw [q3] at hRj hc
                rw [Bool.false_and, Bool.false_and] at hRj
                rw [hRj]
                repeat (first | refine walkL_seq ?_ | refine walkL_skip ?_ | refine walkL_block ?_ | (refine walkL_region fun K hK => ?_; simp (maxSteps := 4000000) only [go_sem, g3]; refine hK _ ?_; clear hK K) | refine walkL_nil ?_ | refine walkL_ret ?_ | refine walkL_exit ?_ | refine blockA_here ?_ | refine blockA_other rfl ?_ | refine blockA_ret ?_ | refine blockA_normal ?_ | refine thenA_ret ?_ | refine thenA_exit ?_ | refine thenA_normal ?_)
                refine walkL_drawn (by kernel_rfl) (by kernel_rfl) fun K hK => ?_
                simp (maxSteps := 4000000) only [go_sem, g2, g4, hni, hnjj]
                refine ⟨_, .fn (hf := hc) (hd := rfl) (hr := .inl rfl), ?_⟩
                simp (maxSteps := 4000000) only [go_sem]
                refine ⟨by kernel_rfl, hK _ ?_⟩
                clear hK K
                repeat (first | refine walkL_true rfl ?_ | refine walkL_false rfl ?_ | refine walkL_seq ?_ | refine walkL_skip ?_ | refine walkL_block ?_ | (refine walkL_region fun K hK => ?_; simp (maxSteps := 4000000) only [go_sem]; refine hK _ ?_; clear hK K) | refine walkL_nil ?_ | refine walkL_ret ?_ | refine walkL_exit ?_ | refine blockA_here ?_ | refine blockA_other rfl ?_ | refine blockA_ret ?_ | refine blockA_normal ?_ | refine thenA_ret ?_ | refine thenA_exit ?_ | refine thenA_normal ?_)
                simp (maxSteps := 4000000) only [go_sem]
              · rw [q3] at hRj hc
                rw [Bool.true_and] at hRj
                repeat (first | refine walkL_seq ?_ | refine walkL_skip ?_ | refine walkL_block ?_ | (refine walkL_region fun K hK => ?_; simp (maxSteps := 4000000) only [go_sem, g3]; refine hK _ ?_; clear hK K) | refine walkL_nil ?_ | refine walkL_ret ?_ | refine walkL_exit ?_ | refine blockA_here ?_ | refine blockA_other rfl ?_ | refine blockA_ret ?_ | refine blockA_normal ?_ | refine thenA_ret ?_ | refine thenA_exit ?_ | refine thenA_normal ?_)
                refine walkL_drawn (by kernel_rfl) (by kernel_rfl) fun K hK => ?_
                simp (maxSteps := 4000000) only [go_sem, g2, g4, hni, hnjj]
                refine ⟨_, .fn (hf := hc) (hd := rfl) (hr := .inl rfl), ?_⟩
                simp (maxSteps := 4000000) only [go_sem]
                refine ⟨by kernel_rfl, hK _ ?_⟩
                clear hK K
                repeat (first | refine walkL_true rfl ?_ | refine walkL_false rfl ?_ | refine walkL_seq ?_ | refine walkL_skip ?_ | refine walkL_block ?_ | (refine walkL_region fun K hK => ?_; simp (maxSteps := 4000000) only [go_sem, hwj]; refine hK _ ?_; clear hK K) | refine walkL_nil ?_ | refine walkL_ret ?_ | refine walkL_exit ?_ | refine blockA_here ?_ | refine blockA_other rfl ?_ | refine blockA_ret ?_ | refine blockA_normal ?_ | refine thenA_ret ?_ | refine thenA_exit ?_ | refine thenA_normal ?_)
                refine ⟨rfl, j + 1, ?_, ⟨hltj, hRj⟩, by omega⟩
                refine weak_of [] ?_ ?_ rfl rfl <;> simp [lessT, lessM, lessB, AV.less]
            · have he : j = d.length := by (have : ¬ j < d.length := by simpa using hb); omega
              subst he
              rw [List.drop_length, ← hrl, List.drop_length, rowOk, Bool.true_and] at hRj
              repeat (first | refine walkL_seq ?_ | refine walkL_skip ?_ | refine walkL_block ?_ | (refine walkL_region fun K hK => ?_; simp (maxSteps := 4000000) only [go_sem, hw]; refine hK _ ?_; clear hK K) | refine walkL_nil ?_ | refine walkL_ret ?_ | refine walkL_exit ?_ | refine blockA_here ?_ | refine blockA_other rfl ?_ | refine blockA_ret ?_ | refine blockA_normal ?_ | refine thenA_ret ?_ | refine thenA_exit ?_ | refine thenA_normal ?_)
              refine ⟨rfl, i + 1, ?_, ⟨hlt, hRj⟩, by omega⟩
              refine weak_of [] ?_ ?_ rfl rfl <;> simp [lessT, lessM, lessB, AV.less]
        · have hf : rowOk q r d = false := by
            cases hx : rowOk q r d with
            | false => rfl
            | true =>
              have := rowOk_len hx
              rw [this] at q2
              simp at q2
          rw [hf, Bool.false_and] at hRi
          rw [hRi]
          repeat (first | refine walkL_true rfl ?_ | refine walkL_false rfl ?_ | refine walkL_seq ?_ | refine walkL_skip ?_ | refine walkL_block ?_ | (refine walkL_region fun K hK => ?_; simp (maxSteps := 4000000) only [go_sem, g1, g2, hni, q2]; refine hK _ ?_; clear hK K) | refine walkL_nil ?_ | refine walkL_ret ?_ | refine walkL_exit ?_ | refine blockA_here ?_ | refine blockA_other rfl ?_ | refine blockA_ret ?_ | refine blockA_normal ?_ | refine thenA_ret ?_ | refine thenA_exit ?_ | refine thenA_normal ?_)
          simp (maxSteps := 4000000) only [go_sem]
      · have he : i = k.days.length := by (have : ¬ i < k.days.length := by simpa using hb); omega
        subst he
        rw [List.drop_length, ← hl, List.drop_length, shapedB] at hRi
        rw [hRi]
        repeat (first | refine walkL_seq ?_ | refine walkL_skip ?_ | refine walkL_block ?_ | (refine walkL_region fun K hK => ?_; simp (maxSteps := 4000000) only [go_sem]; refine hK _ ?_; clear hK K) | refine walkL_nil ?_ | refine walkL_ret ?_ | refine walkL_exit ?_ | refine blockA_here ?_ | refine blockA_other rfl ?_ | refine blockA_ret ?_ | refine blockA_normal ?_ | refine thenA_ret ?_ | refine thenA_exit ?_ | refine thenA_normal ?_)
        simp (maxSteps := 4000000) only [go_sem]
  · have hf : R = false := by
      rw [hR]
      cases hx : shapedB q M k.days with
      | false => rfl
      | true =>
        have := shaped_len hx
        rw [this] at q1
        simp at q1
    rw [hf]
    refine fn_walk 55 Tryz.call136 Tryz.func136 rfl (by decide) fun J => ?_
    simp (maxSteps := 4000000) only [go_sem, St.start, Tryz.ntmps136, Tryz.results136, Kitchen.cells]
    repeat (first | refine walkL_true rfl ?_ | refine walkL_false rfl ?_ | refine walkL_seq ?_ | refine walkL_skip ?_ | refine walkL_block ?_ | (refine walkL_region fun K hK => ?_; simp (maxSteps := 4000000) only [go_sem, q1]; refine hK _ ?_; clear hK K) | refine walkL_nil ?_ | refine walkL_ret ?_ | refine walkL_exit ?_ | refine blockA_here ?_ | refine blockA_other rfl ?_ | refine blockA_ret ?_ | refine blockA_normal ?_ | refine thenA_ret ?_ | refine thenA_exit ?_ | refine thenA_normal ?_)
    simp (maxSteps := 4000000) only [go_sem]
def openK (k : Kitchen) (M : List (List Int)) : Int := if kitE k = 0 then (if shapedB (menuB k) M k.days then 0 else 71) else kitE k
theorem zf84 (k : Kitchen) (M : List (List Int)) (hs : KitSmall k) (hM : M.length < 2 ^ 30) (hMr : ∀ r ∈ M, r.length < 2 ^ 30) : Fn Tryz.prog 84 [.agg k.cells, .sl (listRows M)] (.tup [.agg k.cells, .i (openK k M)]) := by
  have h135 := zf135 k hs
  unfold openK
  rw [Kitchen.cells] at h135
  by_cases h0 : kitE k = 0
  · rw [if_pos h0]
    rw [h0] at h135
    have h136 := zf136m k (kit_good (kitE_zero.1 h0)) M hM hMr
    rw [Kitchen.cells] at h136
    cases q : shapedB (menuB k) M k.days
    · rw [q] at h136
      refine fn_walk 24 Tryz.call84 Tryz.func84 rfl (by decide) fun J => ?_
      simp (maxSteps := 4000000) only [go_sem, St.start, Tryz.ntmps84, Tryz.results84, Kitchen.cells]
      repeat (first | refine walkL_true rfl ?_ | refine walkL_false rfl ?_ | refine walkL_seq ?_ | refine walkL_skip ?_ | refine walkL_block ?_ | (refine walkL_region fun K hK => ?_; simp (maxSteps := 4000000) only [go_sem]; (repeat (first | (refine ⟨_, .lent (hf := h135) (hd := rfl) (hr := rfl), ?_⟩; simp (maxSteps := 4000000) only [go_sem]) | (refine ⟨_, .lent (hf := h136) (hd := rfl) (hr := rfl), ?_⟩; simp (maxSteps := 4000000) only [go_sem]) | (refine ⟨_, .given (hf := h135) (hd := rfl) (ha := rfl), ?_⟩; simp (maxSteps := 4000000) only [go_sem]) | (refine ⟨_, .given (hf := h136) (hd := rfl) (ha := rfl), ?_⟩; simp (maxSteps := 4000000) only [go_sem]))); refine hK _ ?_; clear hK K) | refine walkL_nil ?_ | refine walkL_ret ?_ | refine walkL_exit ?_ | refine blockA_here ?_ | refine blockA_other rfl ?_ | refine blockA_ret ?_ | refine blockA_normal ?_ | refine thenA_ret ?_ | refine thenA_exit ?_ | refine thenA_normal ?_)
      simp (maxSteps := 4000000) only [go_sem]
    · rw [q] at h136
      refine fn_walk 24 Tryz.call84 Tryz.func84 rfl (by decide) fun J => ?_
      simp (maxSteps := 4000000) only [go_sem, St.start, Tryz.ntmps84, Tryz.results84, Kitchen.cells]
      repeat (first | refine walkL_true rfl ?_ | refine walkL_false rfl ?_ | refine walkL_seq ?_ | refine walkL_skip ?_ | refine walkL_block ?_ | (refine walkL_region fun K hK => ?_; simp (maxSteps := 4000000) only [go_sem]; (repeat (first | (refine ⟨_, .lent (hf := h135) (hd := rfl) (hr := rfl), ?_⟩; simp (maxSteps := 4000000) only [go_sem]) | (refine ⟨_, .lent (hf := h136) (hd := rfl) (hr := rfl), ?_⟩; simp (maxSteps := 4000000) only [go_sem]) | (refine ⟨_, .given (hf := h135) (hd := rfl) (ha := rfl), ?_⟩; simp (maxSteps := 4000000) only [go_sem]) | (refine ⟨_, .given (hf := h136) (hd := rfl) (ha := rfl), ?_⟩; simp (maxSteps := 4000000) only [go_sem]))); refine hK _ ?_; clear hK K) | refine walkL_nil ?_ | refine walkL_ret ?_ | refine walkL_exit ?_ | refine blockA_here ?_ | refine blockA_other rfl ?_ | refine blockA_ret ?_ | refine blockA_normal ?_ | refine thenA_ret ?_ | refine thenA_exit ?_ | refine thenA_normal ?_)
      simp (maxSteps := 4000000) only [go_sem]
  · rw [if_neg h0]
    have hz : (kitE k != 0) = true := by simpa using h0
    obtain ⟨e, he⟩ : ∃ e, e = kitE k := ⟨_, rfl⟩
    rw [← he] at h135 hz ⊢
    refine fn_walk 24 Tryz.call84 Tryz.func84 rfl (by decide) fun J => ?_
    simp (maxSteps := 4000000) only [go_sem, St.start, Tryz.ntmps84, Tryz.results84, Kitchen.cells]
    repeat (first | refine walkL_true rfl ?_ | refine walkL_false rfl ?_ | refine walkL_seq ?_ | refine walkL_skip ?_ | refine walkL_block ?_ | (refine walkL_region fun K hK => ?_; simp (maxSteps := 4000000) only [go_sem, hz]; (repeat (first | (refine ⟨_, .lent (hf := h135) (hd := rfl) (hr := rfl), ?_⟩; simp (maxSteps := 4000000) only [go_sem, hz]) | (refine ⟨_, .given (hf := h135) (hd := rfl) (ha := rfl), ?_⟩; simp (maxSteps := 4000000) only [go_sem, hz]))); refine hK _ ?_; clear hK K) | refine walkL_nil ?_ | refine walkL_ret ?_ | refine walkL_exit ?_ | refine blockA_here ?_ | refine blockA_other rfl ?_ | refine blockA_ret ?_ | refine blockA_normal ?_ | refine thenA_ret ?_ | refine thenA_exit ?_ | refine thenA_normal ?_)
    simp (maxSteps := 4000000) only [go_sem]
end Go.Ab
/- Memory of the call's own that is handed over whole; drawn regions whose calls stand in an order. -/
namespace Go.Ab
open Go.RowKit
theorem CallR.own {P : Program} {st : St} {dst : Option Tmp} {g : FuncId} {xs : List AV} {m0 : List Blk} {pins : List Nat} {args : List AV} {r : AV} {m1 : List Blk} (ns news bads rd : List Nat) (hf : FnG P g m0 pins args r m1)
    (hnd : (ns ++ news).Nodup) (hl0 : ns.length = m0.length) (hl1 : (ns ++ news).length = m1.length) (hm : blksG st ns ns m0) (hnew : news.all st.fresh = true) (hla : xs.length = args.length)
    (ha : ∀ (i : Nat) x y, xs[i]? = some x → args[i]? = some y → argG st ns rd x y) (hrd : rd.all (fun n => !ns.contains n) = true) (hsh : shutG st rd) (hb : (List.range ns.length).all (fun i => pins.contains i || bads.contains (ns.getD i 0)) = true)
    (hfl : rd = [] ∨ (r.flatA = true ∧ m1.all Blk.flatB = true)) :
    CallR P st dst g xs (({ (st.keep bads) with m := putM (ns ++ news) (m1.map (Blk.mapN fun i => (ns ++ news)[i]?)) (st.keep bads).m } : St).put dst (r.mapN fun i => (ns ++ news)[i]?)) :=
  CallR.gen m0 pins args r m1 ns news rd bads hf hnd hl0 hl1 (blksG_get hm).2 (fun n hn => fresh_spec (List.all_eq_true.1 hnew n hn)) hla ha (fun n hn => by simpa using List.all_eq_true.1 hrd n hn) hsh
    (fun i n hi hn => by
      have hil := (List.getElem?_eq_some_iff.1 hi).1
      have := List.all_eq_true.1 hb i (List.mem_range.2 hil)
      rw [Bool.or_eq_true] at this
      rcases this with h | h
      · simpa using h
      · rw [List.getD, hi] at h
        exact absurd (by simpa using h) hn) hfl
theorem shutG_nil (st : St) : shutG st [] := fun n hn => by cases hn
theorem flatB_int {e z : Nat} {rows : List (List DV)} (h : rowsFlat rows) : Blk.flatB (.arr e z rows) = true := by
  simp only [Blk.flatB, List.all_eq_true]
  intro r hr
  exact h r hr
def offM (m : Nat → Bool) (i : Nat) : Nat → Bool := fun j => if j = i then false else m j
def depsM (m : Nat → Bool) : List Edge → Prop
  | [] => True
  | e :: es => (Region.binds .any e = true → m e.on = false) ∧ depsM m es
theorem depsM_of {m : Nat → Bool} : ∀ {es : List Edge}, (∀ e ∈ es, Region.binds .any e = true → m e.on = false) → depsM m es
  | [], _ => trivial
  | e :: es, h => ⟨h e (by simp), depsM_of fun e he => h e (by simp [he])⟩
def stepsM (P : Program) (G : (Nat → Bool) → St) : List Oper → Nat → Prop
  | [], _ => True
  | o :: os, i => (∀ m : Nat → Bool, m i = true → depsM m o.after.toList → dstOk o = true ∧ o.guard = none ∧ stepK P o (G m) (fun s => s = G (offM m i))) ∧ stepsM P G os (i + 1)
def StepM (P : Program) (G : (Nat → Bool) → St) (o : Oper) (i : Nat) : Prop := ∀ m : Nat → Bool, m i = true → depsM m o.after.toList → dstOk o = true ∧ o.guard = none ∧ stepK P o (G m) (fun s => s = G (offM m i))
theorem anc_lt {ops : Array Oper} (hb : backB ops = true) {i j : Nat} (h : Anc ops i j) : i < j := by
  induction h with
  | edge ho he hbi => exact back_spec hb ho he hbi
  | step _ _ h1 h2 => omega
structure LeftC (ops : Array Oper) (G : (Nat → Bool) → St) (rs : List Nat) (s s' : St) : Prop where
  now : s = G fun i => rs.contains i
  fin : s' = G fun _ => false
  nodup : rs.Nodup
  ord : rs.Pairwise fun a b => ¬ Anc ops b a
  size : ∀ i ∈ rs, i < ops.size
section
variable {P : Program} {rd : Option Nat} {n : Nat} {J : Env} {ops : Array Oper} {cs : List Code} {k : Option Nat} {st : St} {Q : Exit → Option Nat → St → Prop}
end
attribute [go_sem] offM
end Go.Ab
namespace Go.Ab
open Go.RowKit Go.Proofs
set_option maxHeartbeats 8000000
set_option maxRecDepth 20000
attribute [local irreducible] WalkL Walk
def cmpI (a b : Int) : Int := if a < b then -1 else if a > b then 1 else 0
theorem zf183 (n : Int) : Fn Tryz.prog 183 [.i n] (.bool false) := by
  have q : (n != n) = false := by simp
  refine fn_walk 6 Tryz.call183 Tryz.func183 rfl (by decide) fun J => ?_
  simp (maxSteps := 4000000) only [go_sem, St.start, Tryz.ntmps183, Tryz.results183]
  repeat (first | refine walkL_seq ?_ | refine walkL_skip ?_ | refine walkL_block ?_ | (refine walkL_region fun K hK => ?_; simp (maxSteps := 4000000) only [go_sem, q]; refine hK _ ?_; clear hK K) | refine walkL_nil ?_ | refine walkL_ret ?_ | refine walkL_exit ?_ | refine blockA_here ?_ | refine blockA_other rfl ?_ | refine blockA_ret ?_ | refine blockA_normal ?_ | refine thenA_ret ?_ | refine thenA_exit ?_ | refine thenA_normal ?_)
  simp (maxSteps := 4000000) only [go_sem]
theorem zf140 (a b : Int) : Fn Tryz.prog 140 [.i a, .i b] (.i (cmpI a b)) := by
  have h1 := zf183 a
  have h2 := zf183 b
  unfold cmpI
  by_cases q1 : a < b
  · rw [if_pos q1]
    have d : decide (a < b) = true := decide_eq_true q1
    refine fn_walk 20 Tryz.call140 Tryz.func140 rfl (by decide) fun J => ?_
    simp (maxSteps := 4000000) only [go_sem, St.start, Tryz.ntmps140, Tryz.results140]
    repeat (first | refine walkL_true rfl ?_ | refine walkL_false rfl ?_ | refine walkL_seq ?_ | refine walkL_skip ?_ | refine walkL_block ?_ | (refine walkL_region fun K hK => ?_; simp (maxSteps := 4000000) only [go_sem, d]; (repeat (first | (refine ⟨_, .lent (hf := h1) (hd := rfl) (hr := rfl), ?_⟩; simp (maxSteps := 4000000) only [go_sem, d]) | (refine ⟨_, .lent (hf := h2) (hd := rfl) (hr := rfl), ?_⟩; simp (maxSteps := 4000000) only [go_sem, d]) | (refine ⟨_, .given (hf := h1) (hd := rfl) (ha := rfl), ?_⟩; simp (maxSteps := 4000000) only [go_sem, d]) | (refine ⟨_, .given (hf := h2) (hd := rfl) (ha := rfl), ?_⟩; simp (maxSteps := 4000000) only [go_sem, d]))); refine hK _ ?_; clear hK K) | refine walkL_nil ?_ | refine walkL_ret ?_ | refine walkL_exit ?_ | refine blockA_here ?_ | refine blockA_other rfl ?_ | refine blockA_ret ?_ | refine blockA_normal ?_ | refine thenA_ret ?_ | refine thenA_exit ?_ | refine thenA_normal ?_)
    simp (maxSteps := 4000000) only [go_sem]
  · rw [if_neg q1]
    have d : decide (a < b) = false := decide_eq_false q1
    by_cases q2 : a > b
    · rw [if_pos q2]
      have d2 : decide (a > b) = true := decide_eq_true q2
      refine fn_walk 20 Tryz.call140 Tryz.func140 rfl (by decide) fun J => ?_
      simp (maxSteps := 4000000) only [go_sem, St.start, Tryz.ntmps140, Tryz.results140]
      repeat (first | refine walkL_true rfl ?_ | refine walkL_false rfl ?_ | refine walkL_seq ?_ | refine walkL_skip ?_ | refine walkL_block ?_ | (refine walkL_region fun K hK => ?_; simp (maxSteps := 4000000) only [go_sem, d, d2]; (repeat (first | (refine ⟨_, .lent (hf := h1) (hd := rfl) (hr := rfl), ?_⟩; simp (maxSteps := 4000000) only [go_sem, d, d2]) | (refine ⟨_, .lent (hf := h2) (hd := rfl) (hr := rfl), ?_⟩; simp (maxSteps := 4000000) only [go_sem, d, d2]) | (refine ⟨_, .given (hf := h1) (hd := rfl) (ha := rfl), ?_⟩; simp (maxSteps := 4000000) only [go_sem, d, d2]) | (refine ⟨_, .given (hf := h2) (hd := rfl) (ha := rfl), ?_⟩; simp (maxSteps := 4000000) only [go_sem, d, d2]))); refine hK _ ?_; clear hK K) | refine walkL_nil ?_ | refine walkL_ret ?_ | refine walkL_exit ?_ | refine blockA_here ?_ | refine blockA_other rfl ?_ | refine blockA_ret ?_ | refine blockA_normal ?_ | refine thenA_ret ?_ | refine thenA_exit ?_ | refine thenA_normal ?_)
      simp (maxSteps := 4000000) only [go_sem]
    · rw [if_neg q2]
      have d2 : decide (a > b) = false := decide_eq_false q2
      refine fn_walk 20 Tryz.call140 Tryz.func140 rfl (by decide) fun J => ?_
      simp (maxSteps := 4000000) only [go_sem, St.start, Tryz.ntmps140, Tryz.results140]
      repeat (first | refine walkL_true rfl ?_ | refine walkL_false rfl ?_ | refine walkL_seq ?_ | refine walkL_skip ?_ | refine walkL_block ?_ | (refine walkL_region fun K hK => ?_; simp (maxSteps := 4000000) only [go_sem, d, d2]; (repeat (first | (refine ⟨_, .lent (hf := h1) (hd := rfl) (hr := rfl), ?_⟩; simp (maxSteps := 4000000) only [go_sem, d, d2]) | (refine ⟨_, .lent (hf := h2) (hd := rfl) (hr := rfl), ?_⟩; simp (maxSteps := 4000000) only [go_sem, d, d2]) | (refine ⟨_, .given (hf := h1) (hd := rfl) (ha := rfl), ?_⟩; simp (maxSteps := 4000000) only [go_sem, d, d2]) | (refine ⟨_, .given (hf := h2) (hd := rfl) (ha := rfl), ?_⟩; simp (maxSteps := 4000000) only [go_sem, d, d2]))); refine hK _ ?_; clear hK K) | refine walkL_nil ?_ | refine walkL_ret ?_ | refine walkL_exit ?_ | refine blockA_here ?_ | refine blockA_other rfl ?_ | refine blockA_ret ?_ | refine blockA_normal ?_ | refine thenA_ret ?_ | refine thenA_exit ?_ | refine thenA_normal ?_)
      simp (maxSteps := 4000000) only [go_sem]
def noBatch : Batch := ⟨0, 0, 0⟩
def batAt (k : Kitchen) (i : Nat) : Batch := k.batches.getD i noBatch
theorem bat_at {k : Kitchen} {i : Nat} (h : i < k.batches.length) : (batRows k.batches)[i]? = some (batAt k i).row := by
  obtain ⟨x, hx⟩ : ∃ x, k.batches[i]? = some x := ⟨_, List.getElem?_eq_getElem h⟩
  rw [batRows_at hx, batAt, List.getD, hx]
  rfl
theorem zf139 (k : Kitchen) (a b : Nat) (ha : a < k.batches.length) (hb : b < k.batches.length) : Fn Tryz.prog 139 [.i (a : Int), .i (b : Int), .ptr k.cells 0] (.i (cmpI (batAt k a).last (batAt k b).last)) := by
  have h := zf140 (batAt k a).last (batAt k b).last
  have ga := bat_at ha
  have gb := bat_at hb
  have na : ¬ ((a : Int) < 0) := by omega
  have nb : ¬ ((b : Int) < 0) := by omega
  rw [Batch.row] at ga gb
  refine fn_walk 21 Tryz.call139 Tryz.func139 rfl (by decide) fun J => ?_
  simp (maxSteps := 4000000) only [go_sem, St.start, Tryz.ntmps139, Tryz.results139, Kitchen.cells]
  repeat (first | refine walkL_seq ?_ | refine walkL_skip ?_ | refine walkL_block ?_ | (refine walkL_region fun K hK => ?_; simp (maxSteps := 4000000) only [go_sem]; refine hK _ ?_; clear hK K) | refine walkL_nil ?_ | refine walkL_ret ?_ | refine walkL_exit ?_ | refine blockA_here ?_ | refine blockA_other rfl ?_ | refine blockA_ret ?_ | refine blockA_normal ?_ | refine thenA_ret ?_ | refine thenA_exit ?_ | refine thenA_normal ?_)
  refine walkL_drawn (by kernel_rfl) (by kernel_rfl) fun K hK => ?_
  simp (maxSteps := 4000000) only [go_sem, ga, gb, na, nb]
  refine ⟨_, .fn (hf := h) (hd := rfl) (hr := .inl rfl), ?_⟩
  simp (maxSteps := 4000000) only [go_sem]
  refine ⟨by kernel_rfl, hK _ ?_⟩
  clear hK K
  repeat (first | refine walkL_seq ?_ | refine walkL_skip ?_ | refine walkL_block ?_ | (refine walkL_region fun K hK => ?_; simp (maxSteps := 4000000) only [go_sem]; refine hK _ ?_; clear hK K) | refine walkL_nil ?_ | refine walkL_ret ?_ | refine walkL_exit ?_ | refine blockA_here ?_ | refine blockA_other rfl ?_ | refine blockA_ret ?_ | refine blockA_normal ?_ | refine thenA_ret ?_ | refine thenA_exit ?_ | refine thenA_normal ?_)
  simp (maxSteps := 4000000) only [go_sem]
def swapN (L : List Nat) (j : Nat) : List Nat := (L.set (j + 1) (L.getD j 0)).set j (L.getD (j + 1) 0)
def sinkN (f : Nat → Int) : List Nat → Nat → List Nat
  | L, 0 => L
  | L, j + 1 => if f (L.getD (j + 1) 0) < f (L.getD j 0) then sinkN f (swapN L j) j else L
def insN (f : Nat → Int) (L : List Nat) : Nat → List Nat
  | 0 => L
  | i + 1 => sinkN f (insN f L i) (i + 1)
def natRows (L : List Nat) : List (List DV) := L.map fun (n : Nat) => [DV.i (n : Int)]
theorem natRows_len (L : List Nat) : (natRows L).length = L.length := by simp [natRows]
theorem natRows_head (L : List Nat) : headIs 1 (natRows L) = true := by cases L <;> rfl
theorem natRows_at {L : List Nat} {i : Nat} (h : i < L.length) : (natRows L)[i]? = some [.i ((L.getD i 0 : Nat) : Int)] := by
  obtain ⟨x, hx⟩ : ∃ x, L[i]? = some x := ⟨_, List.getElem?_eq_getElem h⟩
  rw [natRows, List.getElem?_map, hx, List.getD, hx]
  rfl
theorem natRows_set (L : List Nat) (i x : Nat) : (natRows L).set i [.i (x : Int)] = natRows (L.set i x) := by simp [natRows, List.map_set]
attribute [go_sem] natRows_len natRows_head
theorem swapN_len (L : List Nat) (j : Nat) : (swapN L j).length = L.length := by simp [swapN]
theorem swapN_mem {L : List Nat} {j : Nat} (hj : j + 1 < L.length) {x : Nat} (h : x ∈ swapN L j) : x ∈ L := by
  have g1 : L.getD j 0 ∈ L := by
    rw [List.getD, List.getElem?_eq_getElem (by omega)]
    exact List.getElem_mem _
  have g2 : L.getD (j + 1) 0 ∈ L := by
    rw [List.getD, List.getElem?_eq_getElem hj]
    exact List.getElem_mem _
  rcases List.mem_or_eq_of_mem_set h with h | h
  · rcases List.mem_or_eq_of_mem_set h with h | h
    · exact h
    · rw [h]; exact g1
  · rw [h]; exact g2
theorem sinkN_len (f : Nat → Int) : ∀ (j : Nat) (L : List Nat), (sinkN f L j).length = L.length
  | 0, _ => rfl
  | j + 1, L => by
    rw [sinkN]
    split
    · rw [sinkN_len f j, swapN_len]
    · rfl
theorem sinkN_mem (f : Nat → Int) : ∀ (j : Nat) (L : List Nat), j < L.length → ∀ x ∈ sinkN f L j, x ∈ L
  | 0, _, _, _, h => h
  | j + 1, L, hj, x, h => by
    rw [sinkN] at h
    split at h
    · exact swapN_mem hj (sinkN_mem f j _ (by rw [swapN_len]; omega) x h)
    · exact h
theorem insN_len (f : Nat → Int) (L : List Nat) : ∀ i, (insN f L i).length = L.length
  | 0 => rfl
  | i + 1 => by rw [insN, sinkN_len, insN_len f L i]
theorem insN_mem (f : Nat → Int) (L : List Nat) : ∀ i, i < L.length ∨ i = 0 → ∀ x ∈ insN f L i, x ∈ L
  | 0, _, _, h => h
  | i + 1, hi, x, h => insN_mem f L i (by omega) x (sinkN_mem f (i + 1) _ (by rw [insN_len]; omega) x h)
def ordK (k : Kitchen) : List Nat := insN (fun i => (batAt k i).last) (List.range k.batches.length) (k.batches.length - 1)
theorem ordK_len (k : Kitchen) : (ordK k).length = k.batches.length := by rw [ordK, insN_len, List.length_range]
theorem ordK_mem {k : Kitchen} {x : Nat} (h : x ∈ ordK k) : x < k.batches.length := List.mem_range.1 (insN_mem _ _ _ (by rw [List.length_range]; omega) x h)
theorem zf215 (k : Kitchen) (L : List Nat) (hL : ∀ x ∈ L, x < k.batches.length) (hl : L.length < 2 ^ 30) :
    FnG Tryz.prog 215 [.arr 3 1 (natRows L)] [0] [.own 0, .d (.i 0), .d (.i (L.length : Int)), .d (.fn 139 [.ptr k.cells 0])] (.tup []) [.arr 3 1 (natRows (insN (fun i => (batAt k i).last) L (L.length - 1)))] := by
  obtain ⟨f, hf⟩ : ∃ f : Nat → Int, f = fun i => (batAt k i).last := ⟨_, rfl⟩
  rw [← hf]
  have hcmp := fun a b ha hb => zf139 k a b ha hb
  have e1 : IntKind.i64.wrap (0 + 1) = ((0 + 1 : Nat) : Int) := by decide
  rw [Kitchen.cells] at hcmp
  rw [Kitchen.cells]
  have hcm : ∀ a b : Int, decide (cmpI a b < 0) = decide (a < b) := fun a b => by
    unfold cmpI
    split
    · simp [*]
    · split <;> simp [*]
  refine fnG_walk 53 Tryz.call215 Tryz.func215 rfl (by decide) [] [(0, 0)] (by simp only [List.length_cons, List.length_nil]; decide) (by kernel_rfl) fun J => ?_
  simp (maxSteps := 4000000) only [go_sem, St.startG, Tryz.ntmps215, Tryz.results215, List.map_cons, List.map_nil, List.range_succ]
  repeat (first | refine walkL_seq ?_ | refine walkL_skip ?_ | refine walkL_block ?_ | (refine walkL_region fun K hK => ?_; simp (maxSteps := 4000000) only [go_sem, e1]; refine hK _ ?_; clear hK K) | refine walkL_nil ?_ | refine walkL_ret ?_ | refine walkL_exit ?_ | refine blockA_here ?_ | refine blockA_other rfl ?_ | refine blockA_ret ?_ | refine blockA_normal ?_ | refine thenA_ret ?_ | refine thenA_exit ?_ | refine thenA_normal ?_)
  refine walkL_loopS (fun (a : Nat) => [(8, .d (.i ((a + 1 : Nat) : Int)))]) (fun a => [(53, some (.arr 3 1 (natRows (insN f L a))))]) (fun a => a = 0 ∨ a + 1 ≤ L.length) (fun a => L.length - a) 0 ?_ (.inl rfl) ?_
  · simp (maxSteps := 4000000) only [go_sem, insN]
    refine weak_of [] ?_ ?_ rfl rfl <;> simp [lessT, lessM, lessB, AV.less]
    all_goals first | done | rfl
  · intro a ha
    have hAl := insN_len f L a
    have hAm := insN_mem f L a (by omega)
    simp (maxSteps := 4000000) only [go_sem]
    repeat (first | refine walkL_seq ?_ | refine walkL_skip ?_ | refine walkL_block ?_ | (refine walkL_region fun K hK => ?_; simp (maxSteps := 4000000) only [go_sem]; refine hK _ ?_; clear hK K) | refine walkL_nil ?_ | refine walkL_ret ?_ | refine walkL_exit ?_ | refine blockA_here ?_ | refine blockA_other rfl ?_ | refine blockA_ret ?_ | refine blockA_normal ?_ | refine thenA_ret ?_ | refine thenA_exit ?_ | refine thenA_normal ?_)
    refine walkL_cond rfl (fun hb => ?_) (fun hb => ?_)
    · have hlt : a + 1 < L.length := by have := of_decide_eq_true hb; omega
      have hw : IntKind.i64.wrap (((a + 1 : Nat) : Int) + 1) = ((a + 1 + 1 : Nat) : Int) := by rw [wr_small (by omega)]; omega
      obtain ⟨A, hA⟩ : ∃ A, A = insN f L a := ⟨_, rfl⟩
      have hnx : insN f L (a + 1) = sinkN f A (a + 1) := by rw [insN, hA]
      rw [← hA] at hAl hAm ⊢
      repeat (first | refine walkL_seq ?_ | refine walkL_skip ?_ | refine walkL_block ?_ | (refine walkL_region fun K hK => ?_; simp (maxSteps := 4000000) only [go_sem]; refine hK _ ?_; clear hK K) | refine walkL_nil ?_ | refine walkL_ret ?_ | refine walkL_exit ?_ | refine blockA_here ?_ | refine blockA_other rfl ?_ | refine blockA_ret ?_ | refine blockA_normal ?_ | refine thenA_ret ?_ | refine thenA_exit ?_ | refine thenA_normal ?_)
      refine walkL_loopS (fun (q : Nat × List Nat) => [(9, .d (.i (q.1 : Int)))]) (fun q => [(53, some (.arr 3 1 (natRows q.2)))]) (fun q => q.1 ≤ a + 1 ∧ q.2.length = L.length ∧ (∀ x ∈ q.2, x < k.batches.length) ∧ sinkN f q.2 q.1 = sinkN f A (a + 1)) (fun q => q.1) (a + 1, A) ?_ ⟨Nat.le_refl _, hAl, fun x hx => hL x (hAm x hx), rfl⟩ ?_
      · simp (maxSteps := 4000000) only [go_sem]
        refine weak_of [] ?_ ?_ rfl rfl <;> simp [lessT, lessM, lessB, AV.less]
        all_goals first | done | rfl
      · rintro ⟨j, cur⟩ ⟨hj, hcl, hcx, hsk⟩
        dsimp only at hj hcl hcx hsk
        have fin : ∀ X : List Nat, X = sinkN f A (a + 1) → natRows X = natRows (insN f L (a + 1)) := fun X h => by rw [hnx, h]
        cases j with
        | zero =>
          have hX : cur = insN f L (a + 1) := by rw [hnx, ← hsk]; rfl
          have d0 : decide ((0 : Int) > 0) = false := rfl
          simp (maxSteps := 4000000) only [go_sem]
          repeat (first | refine walkL_seq ?_ | refine walkL_skip ?_ | refine walkL_block ?_ | (refine walkL_region fun K hK => ?_; simp (maxSteps := 4000000) only [go_sem]; refine hK _ ?_; clear hK K) | refine walkL_nil ?_ | refine walkL_ret ?_ | refine walkL_exit ?_ | refine blockA_here ?_ | refine blockA_other rfl ?_ | refine blockA_ret ?_ | refine blockA_normal ?_ | refine thenA_ret ?_ | refine thenA_exit ?_ | refine thenA_normal ?_)
          refine walkL_drawn (by kernel_rfl) (by kernel_rfl) fun K hK => ?_
          simp (maxSteps := 4000000) only [go_sem, d0]
          refine ⟨by kernel_rfl, hK _ ?_⟩
          clear hK K
          repeat (first | refine walkL_true rfl ?_ | refine walkL_false rfl ?_ | refine walkL_seq ?_ | refine walkL_skip ?_ | refine walkL_block ?_ | (refine walkL_region fun K hK => ?_; simp (maxSteps := 4000000) only [go_sem, hw]; refine hK _ ?_; clear hK K) | refine walkL_nil ?_ | refine walkL_ret ?_ | refine walkL_exit ?_ | refine blockA_here ?_ | refine blockA_other rfl ?_ | refine blockA_ret ?_ | refine blockA_normal ?_ | refine thenA_ret ?_ | refine thenA_exit ?_ | refine thenA_normal ?_)
          refine ⟨rfl, a + 1, ?_, .inr (by omega), by omega⟩
          rw [hX]
          refine weak_of [] ?_ ?_ rfl rfl <;> simp [lessT, lessM, lessB, AV.less]
          all_goals first | done | rfl
        | succ j =>
          have w1 : IntKind.i64.wrap (((j + 1 : Nat) : Int) - 1) = (j : Int) := by rw [wr_small (by omega)]; omega
          have d1 : decide (((j + 1 : Nat) : Int) > 0) = true := decide_eq_true (by omega)
          have n1 : ¬ (((j + 1 : Nat) : Int) < 0) := by omega
          have n0 : ¬ ((j : Int) < 0) := by omega
          have k1 : j + 1 < cur.length := by omega
          have k0 : j < cur.length := by omega
          have g1 := natRows_at (L := cur) (i := j + 1) (by omega)
          have g0 := natRows_at (L := cur) (i := j) (by omega)
          obtain ⟨x, hx⟩ : ∃ x, cur.getD (j + 1) 0 = x := ⟨_, rfl⟩
          obtain ⟨y, hy⟩ : ∃ y, cur.getD j 0 = y := ⟨_, rfl⟩
          have hxm : x ∈ cur := by
            rw [← hx, List.getD, List.getElem?_eq_getElem (by omega : j + 1 < cur.length)]
            exact List.getElem_mem _
          have hym : y ∈ cur := by
            rw [← hy, List.getD, List.getElem?_eq_getElem (by omega : j < cur.length)]
            exact List.getElem_mem _
          rw [hx] at g1
          rw [hy] at g0
          have hc := hcmp x y (hcx x hxm) (hcx y hym)
          have hfx : (batAt k x).last = f x := by rw [hf]
          have hfy : (batAt k y).last = f y := by rw [hf]
          rw [hfx, hfy] at hc
          rw [sinkN, hx, hy] at hsk
          have hd := hcm (f x) (f y)
          obtain ⟨cv, hcv⟩ : ∃ cv, cv = cmpI (f x) (f y) := ⟨_, rfl⟩
          rw [← hcv] at hc hd
          by_cases hlt2 : f x < f y
          · rw [if_pos hlt2] at hsk
            rw [decide_eq_true hlt2] at hd
            obtain ⟨C1, hC1⟩ : ∃ C1, C1 = cur.set (j + 1) y := ⟨_, rfl⟩
            have su1 : (natRows cur).set (j + 1) [.i (y : Int)] = natRows C1 := by rw [natRows_set, hC1]
            have hC1l : C1.length = cur.length := by rw [hC1]; simp
            have g2 : (natRows C1)[j]? = some [.i (y : Int)] := by
              have := natRows_at (L := C1) (i := j) (by omega)
              rw [this, hC1, List.getD, List.getElem?_set_ne (by omega), ← List.getD, hy]
            have su2 : (natRows C1).set j [.i (x : Int)] = natRows (swapN cur j) := by rw [natRows_set, hC1, swapN, hx, hy]
            simp (maxSteps := 4000000) only [go_sem]
            repeat (first | refine walkL_seq ?_ | refine walkL_skip ?_ | refine walkL_block ?_ | (refine walkL_region fun K hK => ?_; simp (maxSteps := 4000000) only [go_sem]; refine hK _ ?_; clear hK K) | refine walkL_nil ?_ | refine walkL_ret ?_ | refine walkL_exit ?_ | refine blockA_here ?_ | refine blockA_other rfl ?_ | refine blockA_ret ?_ | refine blockA_normal ?_ | refine thenA_ret ?_ | refine thenA_exit ?_ | refine thenA_normal ?_)
            refine walkL_drawn (by kernel_rfl) (by kernel_rfl) fun K hK => ?_
            simp (maxSteps := 4000000) only [go_sem, d1, w1, n1, n0, k1, k0, g1, g0]
            refine ⟨_, .fn (hf := hc) (hd := rfl) (hr := .inl rfl), ?_⟩
            simp (maxSteps := 4000000) only [go_sem, hd]
            refine ⟨by kernel_rfl, hK _ ?_⟩
            clear hK K
            refine walkL_true rfl ?_
            repeat (first | refine walkL_seq ?_ | refine walkL_skip ?_ | refine walkL_block ?_ | (refine walkL_region fun K hK => ?_; simp (maxSteps := 4000000) only [go_sem]; refine hK _ ?_; clear hK K) | refine walkL_nil ?_ | refine walkL_ret ?_ | refine walkL_exit ?_ | refine blockA_here ?_ | refine blockA_other rfl ?_ | refine blockA_ret ?_ | refine blockA_normal ?_ | refine thenA_ret ?_ | refine thenA_exit ?_ | refine thenA_normal ?_)
            have k2 : j < C1.length := by omega
            refine walkL_drawn (by kernel_rfl) (by kernel_rfl) fun K hK => ?_
            simp (maxSteps := 4000000) only [go_sem, w1, n1, n0, k1, k0, k2, g1, g0, su1, g2, su2]
            refine ⟨by kernel_rfl, hK _ ?_⟩
            clear hK K
            repeat (first | refine walkL_seq ?_ | refine walkL_skip ?_ | refine walkL_block ?_ | (refine walkL_region fun K hK => ?_; simp (maxSteps := 4000000) only [go_sem, w1]; refine hK _ ?_; clear hK K) | refine walkL_nil ?_ | refine walkL_ret ?_ | refine walkL_exit ?_ | refine blockA_here ?_ | refine blockA_other rfl ?_ | refine blockA_ret ?_ | refine blockA_normal ?_ | refine thenA_ret ?_ | refine thenA_exit ?_ | refine thenA_normal ?_)
            refine ⟨rfl, (j, swapN cur j), ?_, ⟨by dsimp only; omega, by dsimp only; rw [swapN_len]; exact hcl, fun z hz => hcx z (swapN_mem (by omega) hz), hsk⟩, by dsimp only; omega⟩
            refine weak_of [] ?_ ?_ rfl rfl <;> simp [lessT, lessM, lessB, AV.less]
            all_goals first | done | rfl
          · rw [if_neg hlt2] at hsk
            rw [decide_eq_false hlt2] at hd
            have hX : cur = insN f L (a + 1) := by rw [hnx, ← hsk]
            simp (maxSteps := 4000000) only [go_sem]
            repeat (first | refine walkL_seq ?_ | refine walkL_skip ?_ | refine walkL_block ?_ | (refine walkL_region fun K hK => ?_; simp (maxSteps := 4000000) only [go_sem]; refine hK _ ?_; clear hK K) | refine walkL_nil ?_ | refine walkL_ret ?_ | refine walkL_exit ?_ | refine blockA_here ?_ | refine blockA_other rfl ?_ | refine blockA_ret ?_ | refine blockA_normal ?_ | refine thenA_ret ?_ | refine thenA_exit ?_ | refine thenA_normal ?_)
            refine walkL_drawn (by kernel_rfl) (by kernel_rfl) fun K hK => ?_
            simp (maxSteps := 4000000) only [go_sem, d1, w1, n1, n0, k1, k0, g1, g0]
            refine ⟨_, .fn (hf := hc) (hd := rfl) (hr := .inl rfl), ?_⟩
            simp (maxSteps := 4000000) only [go_sem, hd]
            refine ⟨by kernel_rfl, hK _ ?_⟩
            clear hK K
            repeat (first | refine walkL_true rfl ?_ | refine walkL_false rfl ?_ | refine walkL_seq ?_ | refine walkL_skip ?_ | refine walkL_block ?_ | (refine walkL_region fun K hK => ?_; simp (maxSteps := 4000000) only [go_sem, hw]; refine hK _ ?_; clear hK K) | refine walkL_nil ?_ | refine walkL_ret ?_ | refine walkL_exit ?_ | refine blockA_here ?_ | refine blockA_other rfl ?_ | refine blockA_ret ?_ | refine blockA_normal ?_ | refine thenA_ret ?_ | refine thenA_exit ?_ | refine thenA_normal ?_)
            refine ⟨rfl, a + 1, ?_, .inr (by omega), by omega⟩
            rw [← hX]
            refine weak_of [] ?_ ?_ rfl rfl <;> simp [lessT, lessM, lessB, AV.less]
            all_goals first | done | rfl
    · have he : a = L.length - 1 := by (have : ¬ a + 1 < L.length := by intro h; have := decide_eq_true (p := ((a + 1 : Nat) : Int) < (L.length : Int)) (by omega); rw [this] at hb; cases hb); omega
      subst he
      repeat (first | refine walkL_seq ?_ | refine walkL_skip ?_ | refine walkL_block ?_ | (refine walkL_region fun K hK => ?_; simp (maxSteps := 4000000) only [go_sem]; refine hK _ ?_; clear hK K) | refine walkL_nil ?_ | refine walkL_ret ?_ | refine walkL_exit ?_ | refine blockA_here ?_ | refine blockA_other rfl ?_ | refine blockA_ret ?_ | refine blockA_normal ?_ | refine thenA_ret ?_ | refine thenA_exit ?_ | refine thenA_normal ?_)
      simp (maxSteps := 4000000) only [go_sem, retG]
end Go.Ab
namespace Go.Ab
open Go.RowKit Go.Proofs
set_option maxHeartbeats 8000000
set_option maxRecDepth 20000
attribute [local irreducible] WalkL Walk
def sortK (k : Kitchen) (L : List Nat) : List Nat := insN (fun i => (batAt k i).last) L (L.length - 1)
theorem natRows_flat (L : List Nat) : rowsFlat (natRows L) := by
  intro r hr d hd
  obtain ⟨x, _, rfl⟩ := List.mem_map.1 hr
  rw [List.mem_singleton.1 hd]
  rfl
theorem zf182 (k : Kitchen) (L : List Nat) (hL : ∀ x ∈ L, x < k.batches.length) (hl : L.length ≤ 10) :
    FnG Tryz.prog 182 [.arr 3 1 (natRows L)] [0] [.own 0, .d (.i (L.length : Int)), .d (.fn 139 [.ptr k.cells 0])] (.tup []) [.arr 3 1 (natRows (sortK k L))] := by
  have h := zf215 k L hL (by omega)
  change FnG Tryz.prog 215 _ _ _ _ [.arr 3 1 (natRows (sortK k L))] at h
  rw [Kitchen.cells] at h ⊢
  have d1 : decide ((20 : Int) ≤ (L.length : Int)) = false := decide_eq_false (by omega)
  have d2 : decide ((20 : Int) < (L.length : Int)) = false := decide_eq_false (by omega)
  obtain ⟨S, hS⟩ : ∃ S, S = sortK k L := ⟨_, rfl⟩
  rw [← hS] at h ⊢
  refine fnG_walk 63 Tryz.call182 Tryz.func182 rfl (by decide) [] [(0, 0)] (by simp only [List.length_cons, List.length_nil]; decide) (by kernel_rfl) fun J => ?_
  simp (maxSteps := 4000000) only [go_sem, St.startG, Tryz.ntmps182, Tryz.results182, List.map_cons, List.map_nil, List.range_succ]
  repeat (first | refine walkL_seq ?_ | refine walkL_skip ?_ | refine walkL_block ?_ | (refine walkL_region fun K hK => ?_; simp (maxSteps := 4000000) only [go_sem]; refine hK _ ?_; clear hK K) | refine walkL_nil ?_ | refine walkL_ret ?_ | refine walkL_exit ?_ | refine blockA_here ?_ | refine blockA_other rfl ?_ | refine blockA_ret ?_ | refine blockA_normal ?_ | refine thenA_ret ?_ | refine thenA_exit ?_ | refine thenA_normal ?_)
  refine walkL_loopS (fun (_ : Unit) => [(7, .d (.i 0)), (8, .d (.i 20))]) (fun _ => []) (fun _ => True) (fun _ => 0) () ?_ trivial ?_
  · simp (maxSteps := 4000000) only [go_sem]
    refine weak_of [] ?_ ?_ rfl rfl <;> simp [lessT, lessM, lessB, AV.less]
  · intro _ _
    simp (maxSteps := 4000000) only [go_sem]
    repeat (first | refine walkL_true rfl ?_ | refine walkL_false rfl ?_ | refine walkL_seq ?_ | refine walkL_skip ?_ | refine walkL_block ?_ | (refine walkL_region fun K hK => ?_; simp (maxSteps := 4000000) only [go_sem, d1]; refine hK _ ?_; clear hK K) | refine walkL_nil ?_ | refine walkL_ret ?_ | refine walkL_exit ?_ | refine blockA_here ?_ | refine blockA_other rfl ?_ | refine blockA_ret ?_ | refine blockA_normal ?_ | refine thenA_ret ?_ | refine thenA_exit ?_ | refine thenA_normal ?_)
    refine walkL_region fun K hK => ?_
    simp (maxSteps := 4000000) only [go_sem]
    refine ⟨_, .own (ns := [63]) (news := []) (bads := []) (rd := []) (hf := h) (hnd := by decide) (hl0 := rfl) (hl1 := rfl) (hm := by repeat (first | exact trivial | refine And.intro ?_ ?_ | rfl)) (hnew := rfl) (hla := rfl) (ha := argG_all (by repeat (first | exact trivial | refine And.intro ?_ ?_ | exact argG_ren rfl | exact argG_deep rfl rfl))) (hrd := rfl) (hsh := shutG_nil _) (hb := rfl) (hfl := .inl rfl), ?_⟩
    simp (maxSteps := 4000000) only [go_sem, List.map_cons, List.map_nil]
    refine hK _ ?_
    clear hK K
    repeat (first | refine walkL_seq ?_ | refine walkL_skip ?_ | refine walkL_block ?_ | (refine walkL_region fun K hK => ?_; simp (maxSteps := 4000000) only [go_sem]; refine hK _ ?_; clear hK K) | refine walkL_nil ?_ | refine walkL_ret ?_ | refine walkL_exit ?_ | refine blockA_here ?_ | refine blockA_other rfl ?_ | refine blockA_ret ?_ | refine blockA_normal ?_ | refine thenA_ret ?_ | refine thenA_exit ?_ | refine thenA_normal ?_)
    refine walkL_loopS (fun (_ : Unit) => [(6, .d (.i 20))]) (fun _ => [(63, some (.arr 3 1 (natRows S)))]) (fun _ => True) (fun _ => 0) () ?_ trivial ?_
    · simp (maxSteps := 4000000) only [go_sem]
      refine weak_of [] ?_ ?_ rfl rfl <;> simp [lessT, lessM, lessB, AV.less]
    · intro _ _
      simp (maxSteps := 4000000) only [go_sem]
      repeat (first | refine walkL_true rfl ?_ | refine walkL_false rfl ?_ | refine walkL_seq ?_ | refine walkL_skip ?_ | refine walkL_block ?_ | (refine walkL_region fun K hK => ?_; simp (maxSteps := 4000000) only [go_sem, d2]; refine hK _ ?_; clear hK K) | refine walkL_nil ?_ | refine walkL_ret ?_ | refine walkL_exit ?_ | refine blockA_here ?_ | refine blockA_other rfl ?_ | refine blockA_ret ?_ | refine blockA_normal ?_ | refine thenA_ret ?_ | refine thenA_exit ?_ | refine thenA_normal ?_)
      simp (maxSteps := 4000000) only [go_sem, retG]
theorem zf138 (k : Kitchen) (L : List Nat) (hL : ∀ x ∈ L, x < k.batches.length) (hl : L.length ≤ 10) :
    FnG Tryz.prog 138 [.arr 3 1 (natRows L)] [0] [.own 0, .d (.fn 139 [.ptr k.cells 0])] (.tup []) [.arr 3 1 (natRows (sortK k L))] := by
  have h := zf182 k L hL hl
  rw [Kitchen.cells] at h ⊢
  obtain ⟨S, hS⟩ : ∃ S, S = sortK k L := ⟨_, rfl⟩
  rw [← hS] at h ⊢
  refine fnG_walk 9 Tryz.call138 Tryz.func138 rfl (by decide) [] [(0, 0)] (by simp only [List.length_cons, List.length_nil]; decide) (by kernel_rfl) fun J => ?_
  simp (maxSteps := 4000000) only [go_sem, St.startG, Tryz.ntmps138, Tryz.results138, List.map_cons, List.map_nil, List.range_succ]
  repeat (first | refine walkL_seq ?_ | refine walkL_skip ?_ | refine walkL_block ?_ | (refine walkL_region fun K hK => ?_; simp (maxSteps := 4000000) only [go_sem]; refine hK _ ?_; clear hK K) | refine walkL_nil ?_ | refine walkL_ret ?_ | refine walkL_exit ?_ | refine blockA_here ?_ | refine blockA_other rfl ?_ | refine blockA_ret ?_ | refine blockA_normal ?_ | refine thenA_ret ?_ | refine thenA_exit ?_ | refine thenA_normal ?_)
  refine walkL_region fun K hK => ?_
  simp (maxSteps := 4000000) only [go_sem]
  refine ⟨_, .own (ns := [9]) (news := []) (bads := []) (rd := []) (hf := h) (hnd := by decide) (hl0 := rfl) (hl1 := rfl) (hm := by repeat (first | exact trivial | refine And.intro ?_ ?_ | rfl)) (hnew := rfl) (hla := rfl) (ha := argG_all (by repeat (first | exact trivial | refine And.intro ?_ ?_ | exact argG_ren rfl | exact argG_deep rfl rfl))) (hrd := rfl) (hsh := shutG_nil _) (hb := rfl) (hfl := .inl rfl), ?_⟩
  simp (maxSteps := 4000000) only [go_sem, List.map_cons, List.map_nil]
  refine hK _ ?_
  clear hK K
  repeat (first | refine walkL_seq ?_ | refine walkL_skip ?_ | refine walkL_block ?_ | (refine walkL_region fun K hK => ?_; simp (maxSteps := 4000000) only [go_sem]; refine hK _ ?_; clear hK K) | refine walkL_nil ?_ | refine walkL_ret ?_ | refine walkL_exit ?_ | refine blockA_here ?_ | refine blockA_other rfl ?_ | refine blockA_ret ?_ | refine blockA_normal ?_ | refine thenA_ret ?_ | refine thenA_exit ?_ | refine thenA_normal ?_)
  simp (maxSteps := 4000000) only [go_sem, retG]
def amtK (k : Kitchen) : List Int := k.batches.map (·.amount)
def lardRow (k : Kitchen) (l o : AV) (w : Int) : List AV := [.d (.sl (intRows k.allerg)), .d (.sl (batRows k.batches)), .d (.sl (dishRows k.dishes)), .d (.sl (dayRows k.days)), l, o, .d (.i w)]
theorem zf85 (k : Kitchen) (hb : k.batches.length ≤ 10) : FnG Tryz.prog 85 [] [] [.d (.agg k.cells)] (.box 0 0) [.box (lardRow k (.own 1) (.own 2) 0), .arr 3 1 (intRows (amtK k)), .arr 3 1 (natRows (ordK k))] := by
  have h := zf138 k (List.range k.batches.length) (fun x hx => List.mem_range.1 hx) (by simpa using hb)
  have hord : sortK k (List.range k.batches.length) = ordK k := by rw [sortK, ordK, List.length_range]
  rw [hord] at h
  obtain ⟨O, hO⟩ : ∃ O, O = ordK k := ⟨_, rfl⟩
  rw [← hO] at h ⊢
  rw [Kitchen.cells] at h
  refine fnG_walk 47 Tryz.call85 Tryz.func85 rfl (by decide) [8, 26, 36] [] (by simp only [List.length_cons, List.length_nil]; decide) (by kernel_rfl) fun J => ?_
  simp (maxSteps := 4000000) only [go_sem, St.startG, Tryz.ntmps85, Tryz.results85, List.map_cons, List.map_nil, List.range_succ,  Kitchen.cells, lardRow]
  repeat (first | refine walkL_seq ?_ | refine walkL_skip ?_ | refine walkL_block ?_ | (refine walkL_region fun K hK => ?_; simp (maxSteps := 4000000) only [go_sem]; refine hK _ ?_; clear hK K) | refine walkL_nil ?_ | refine walkL_ret ?_ | refine walkL_exit ?_ | refine blockA_here ?_ | refine blockA_other rfl ?_ | refine blockA_ret ?_ | refine blockA_normal ?_ | refine thenA_ret ?_ | refine thenA_exit ?_ | refine thenA_normal ?_)
  refine walkL_loopS (fun (i : Nat) => [(13, .d (.i (i : Int)))]) (fun i => [(8, some (.box (lardRow k (.own 26) (.own 36) 0))), (26, some (.arr 3 1 (intRows ((amtK k).take i)))), (36, some (.arr 3 1 (natRows (List.range i))))]) (fun i => i ≤ k.batches.length) (fun i => k.batches.length - i) 0 ?_ (Nat.zero_le _) ?_
  · simp (maxSteps := 4000000) only [go_sem, lardRow]
    refine weak_of [26, 36] ?_ ?_ rfl rfl <;> simp [lessT, lessM, lessB, AV.less]
    all_goals first | done | rfl | exact ⟨rfl, rfl⟩ | trace_state
  · intro i hi
    simp (maxSteps := 4000000) only [go_sem, lardRow]
    repeat (first | refine walkL_seq ?_ | refine walkL_skip ?_ | refine walkL_block ?_ | (refine walkL_region fun K hK => ?_; simp (maxSteps := 4000000) only [go_sem]; refine hK _ ?_; clear hK K) | refine walkL_nil ?_ | refine walkL_ret ?_ | refine walkL_exit ?_ | refine blockA_here ?_ | refine blockA_other rfl ?_ | refine blockA_ret ?_ | refine blockA_normal ?_ | refine thenA_ret ?_ | refine thenA_exit ?_ | refine thenA_normal ?_)
    refine walkL_cond rfl (fun hb2 => ?_) (fun hb2 => ?_)
    · have hlt : i < k.batches.length := by simpa using hb2
      have hw : IntKind.i64.wrap ((i : Int) + 1) = ((i + 1 : Nat) : Int) := by rw [wr_small (by omega)]; simp
      have gb := bat_at hlt
      rw [Batch.row] at gb
      obtain ⟨A, hA⟩ : ∃ A, A = (amtK k).take i := ⟨_, rfl⟩
      have hAl : A.length ≤ 10 := by rw [hA]; simp; omega
      have hn : A.length + 1 ≤ 549755813888 := by omega
      have hn2 : i + 1 ≤ 549755813888 := by omega
      have e1 : (amtK k).take (i + 1) = A ++ [(batAt k i).amount] := by
        obtain ⟨x, hx⟩ : ∃ x, k.batches[i]? = some x := ⟨_, List.getElem?_eq_getElem hlt⟩
        have hx2 : (amtK k)[i]? = some x.amount := by simp [amtK, hx]
        rw [List.take_add_one, hx2, ← hA, batAt, List.getD, hx]
        rfl
      have s1 : intRows A ++ [[.i (batAt k i).amount]] = intRows ((amtK k).take (i + 1)) := by rw [e1]; simp [intRows]
      have s2 : natRows (List.range i) ++ [[.i (i : Int)]] = natRows (List.range (i + 1)) := by rw [List.range_succ]; simp [natRows]
      rw [← hA]
      repeat (first | refine walkL_seq ?_ | refine walkL_skip ?_ | refine walkL_block ?_ | (refine walkL_region fun K hK => ?_; simp (maxSteps := 4000000) only [go_sem, gb]; refine hK _ ?_; clear hK K) | refine walkL_nil ?_ | refine walkL_ret ?_ | refine walkL_exit ?_ | refine blockA_here ?_ | refine blockA_other rfl ?_ | refine blockA_ret ?_ | refine blockA_normal ?_ | refine thenA_ret ?_ | refine thenA_exit ?_ | refine thenA_normal ?_)
      refine walkL_drawnA (by kernel_rfl) (by kernel_rfl) fun K hK => ?_
      simp (maxSteps := 4000000) only [go_sem, hn, s1]
      refine ⟨by kernel_rfl, hK _ ?_⟩
      clear hK K
      repeat (first | refine walkL_seq ?_ | refine walkL_skip ?_ | refine walkL_block ?_ | (refine walkL_region fun K hK => ?_; simp (maxSteps := 4000000) only [go_sem, hn2, List.length_range, s2, hw]; refine hK _ ?_; clear hK K) | refine walkL_nil ?_ | refine walkL_ret ?_ | refine walkL_exit ?_ | refine blockA_here ?_ | refine blockA_other rfl ?_ | refine blockA_ret ?_ | refine blockA_normal ?_ | refine thenA_ret ?_ | refine thenA_exit ?_ | refine thenA_normal ?_)
      refine ⟨rfl, i + 1, ?_, hlt, by omega⟩
      simp (maxSteps := 4000000) only [go_sem, lardRow]
      refine weak_of [] ?_ ?_ rfl rfl <;> simp [lessT, lessM, lessB, AV.less]
      all_goals first | done | rfl | exact ⟨rfl, rfl⟩ | trace_state
    · have he : i = k.batches.length := by (have : ¬ i < k.batches.length := by simpa using hb2); omega
      subst he
      have e1 : (amtK k).take k.batches.length = amtK k := by rw [amtK, List.take_of_length_le (by simp)]
      rw [e1]
      repeat (first | refine walkL_seq ?_ | refine walkL_skip ?_ | refine walkL_block ?_ | (refine walkL_region fun K hK => ?_; simp (maxSteps := 4000000) only [go_sem]; refine hK _ ?_; clear hK K) | refine walkL_nil ?_ | refine walkL_ret ?_ | refine walkL_exit ?_ | refine blockA_here ?_ | refine blockA_other rfl ?_ | refine blockA_ret ?_ | refine blockA_normal ?_ | refine thenA_ret ?_ | refine thenA_exit ?_ | refine thenA_normal ?_)
      refine walkL_region fun K hK => ?_
      simp (maxSteps := 4000000) only [go_sem]
      refine ⟨_, .own (ns := [36]) (news := []) (bads := []) (rd := [1]) (hf := h) (hnd := by decide) (hl0 := rfl) (hl1 := rfl) (hm := by repeat (first | exact trivial | refine And.intro ?_ ?_ | rfl)) (hnew := rfl) (hla := rfl) (ha := argG_all (by repeat (first | exact trivial | refine And.intro ?_ ?_ | exact argG_ren rfl | exact argG_deep rfl rfl))) (hrd := rfl) (hsh := by intro n hn row hrow k hk; simp at hn; subst hn; simp at hrow; subst hrow; simp [AV.refs, AV.refs.AV.refss] at hk) (hb := rfl) (hfl := .inr ⟨rfl, by simp only [List.all_cons, List.all_nil, Bool.and_true]; exact flatB_int (natRows_flat _)⟩), ?_⟩
      simp (maxSteps := 4000000) only [go_sem, List.map_cons, List.map_nil]
      refine hK _ ?_
      clear hK K
      repeat (first | refine walkL_seq ?_ | refine walkL_skip ?_ | refine walkL_block ?_ | (refine walkL_region fun K hK => ?_; simp (maxSteps := 4000000) only [go_sem]; refine hK _ ?_; clear hK K) | refine walkL_nil ?_ | refine walkL_ret ?_ | refine walkL_exit ?_ | refine blockA_here ?_ | refine blockA_other rfl ?_ | refine blockA_ret ?_ | refine blockA_normal ?_ | refine thenA_ret ?_ | refine thenA_exit ?_ | refine thenA_normal ?_)
      simp (maxSteps := 4000000) only [go_sem, retG, lardRow]
end Go.Ab
namespace Go.Ab
open Go.RowKit Go.Proofs
set_option maxHeartbeats 8000000
set_option maxRecDepth 20000
attribute [local irreducible] WalkL Walk
theorem zf184 (l : List Int) (hl : l.length < 2 ^ 30) : FnS Tryz.prog 184 [.sl (intRows l)] 3 1 (intRows l) := by
  have h1 : l.length ≤ 549755813888 := by omega
  have h2 : 0 + l.length ≤ 549755813888 := by omega
  cases l with
  | nil =>
    have e : intRows [] = [] := rfl
    rw [e]
    refine fnS_walk 8 Tryz.call184 Tryz.func184 rfl (by decide) fun J => ?_
    simp (maxSteps := 4000000) only [go_sem, St.start, Tryz.ntmps184, Tryz.results184]
    repeat (first | refine walkL_seq ?_ | refine walkL_skip ?_ | refine walkL_block ?_ | (refine walkL_region fun K hK => ?_; simp (maxSteps := 4000000) only [go_sem, List.isEmpty_nil]; refine hK _ ?_; clear hK K) | refine walkL_nil ?_ | refine walkL_ret ?_ | refine walkL_exit ?_ | refine blockA_here ?_ | refine blockA_other rfl ?_ | refine blockA_ret ?_ | refine blockA_normal ?_ | refine thenA_ret ?_ | refine thenA_exit ?_ | refine thenA_normal ?_)
    refine walkL_any rfl ?_ ?_
    · repeat (first | refine walkL_seq ?_ | refine walkL_skip ?_ | refine walkL_block ?_ | (refine walkL_region fun K hK => ?_; simp (maxSteps := 4000000) only [go_sem]; refine hK _ ?_; clear hK K) | refine walkL_nil ?_ | refine walkL_ret ?_ | refine walkL_exit ?_ | refine blockA_here ?_ | refine blockA_other rfl ?_ | refine blockA_ret ?_ | refine blockA_normal ?_ | refine thenA_ret ?_ | refine thenA_exit ?_ | refine thenA_normal ?_)
      simp (maxSteps := 4000000) only [go_sem]
    · repeat (first | refine walkL_seq ?_ | refine walkL_skip ?_ | refine walkL_block ?_ | (refine walkL_region fun K hK => ?_; simp (maxSteps := 4000000) only [go_sem, List.nil_append, List.length_nil]; refine hK _ ?_; clear hK K) | refine walkL_nil ?_ | refine walkL_ret ?_ | refine walkL_exit ?_ | refine blockA_here ?_ | refine blockA_other rfl ?_ | refine blockA_ret ?_ | refine blockA_normal ?_ | refine thenA_ret ?_ | refine thenA_exit ?_ | refine thenA_normal ?_)
      simp (maxSteps := 4000000) only [go_sem]
  | cons x l =>
    have hne : (intRows (x :: l)).isEmpty = false := rfl
    obtain ⟨L, hL⟩ : ∃ L, L = x :: l := ⟨_, rfl⟩
    rw [← hL] at hne h1 h2 ⊢
    refine fnS_walk 8 Tryz.call184 Tryz.func184 rfl (by decide) fun J => ?_
    simp (maxSteps := 4000000) only [go_sem, St.start, Tryz.ntmps184, Tryz.results184]
    repeat (first | refine walkL_seq ?_ | refine walkL_skip ?_ | refine walkL_block ?_ | (refine walkL_region fun K hK => ?_; simp (maxSteps := 4000000) only [go_sem, hne]; refine hK _ ?_; clear hK K) | refine walkL_nil ?_ | refine walkL_ret ?_ | refine walkL_exit ?_ | refine blockA_here ?_ | refine blockA_other rfl ?_ | refine blockA_ret ?_ | refine blockA_normal ?_ | refine thenA_ret ?_ | refine thenA_exit ?_ | refine thenA_normal ?_)
    refine walkL_false rfl ?_
    repeat (first | refine walkL_seq ?_ | refine walkL_skip ?_ | refine walkL_block ?_ | (refine walkL_region fun K hK => ?_; simp (maxSteps := 4000000) only [go_sem, h1, h2, List.nil_append, List.length_nil]; refine hK _ ?_; clear hK K) | refine walkL_nil ?_ | refine walkL_ret ?_ | refine walkL_exit ?_ | refine blockA_here ?_ | refine blockA_other rfl ?_ | refine blockA_ret ?_ | refine blockA_normal ?_ | refine thenA_ret ?_ | refine thenA_exit ?_ | refine thenA_normal ?_)
    simp (maxSteps := 4000000) only [go_sem]
def dinAt (k : Kitchen) (day group : Nat) : Diners := (k.days.getD day []).getD group ⟨0, ⟨0, 0⟩⟩
theorem day_at {k : Kitchen} {day : Nat} (h : day < k.days.length) : (dayRows k.days)[day]? = some [.sl (dinRows (k.days.getD day []))] := by
  obtain ⟨x, hx⟩ : ∃ x, k.days[day]? = some x := ⟨_, List.getElem?_eq_getElem h⟩
  rw [dayRows_at hx, List.getD, hx]
  rfl
theorem din_at {k : Kitchen} {day group : Nat} (h : group < (k.days.getD day []).length) : (dinRows (k.days.getD day []))[group]? = some (dinAt k day group).row := by
  unfold dinAt
  obtain ⟨D, hD⟩ : ∃ D, D = k.days.getD day [] := ⟨_, rfl⟩
  rw [← hD] at h ⊢
  obtain ⟨x, hx⟩ : ∃ x, D[group]? = some x := ⟨_, List.getElem?_eq_getElem h⟩
  rw [dinRows_at hx, List.getD, hx]
  rfl
theorem zf89 (k : Kitchen) (day group : Nat) (hd : day < k.days.length) (hg : group < (k.days.getD day []).length) : Fn Tryz.prog 89 [.agg k.cells, .i (day : Int), .i (group : Int)] (.i (dinAt k day group).count.hi) := by
  have g1 := day_at hd
  have g2 := din_at hg
  have n1 : ¬ ((day : Int) < 0) := by omega
  have n2 : ¬ ((group : Int) < 0) := by omega
  rw [Diners.row] at g2
  refine fn_walk 18 Tryz.call89 Tryz.func89 rfl (by decide) fun J => ?_
  simp (maxSteps := 4000000) only [go_sem, St.start, Tryz.ntmps89, Tryz.results89, Kitchen.cells]
  repeat (first | refine walkL_seq ?_ | refine walkL_skip ?_ | refine walkL_block ?_ | (refine walkL_region fun K hK => ?_; simp (maxSteps := 4000000) only [go_sem, g1, g2, n1, n2]; refine hK _ ?_; clear hK K) | refine walkL_nil ?_ | refine walkL_ret ?_ | refine walkL_exit ?_ | refine blockA_here ?_ | refine blockA_other rfl ?_ | refine blockA_ret ?_ | refine blockA_normal ?_ | refine thenA_ret ?_ | refine thenA_exit ?_ | refine thenA_normal ?_)
  simp (maxSteps := 4000000) only [go_sem]
theorem zf95 (k : Kitchen) (day group : Nat) (hd : day < k.days.length) (hg : group < (k.days.getD day []).length) : Fn Tryz.prog 95 [.agg k.cells, .i (day : Int), .i (group : Int)] (.i (dinAt k day group).count.lo) := by
  have g1 := day_at hd
  have g2 := din_at hg
  have n1 : ¬ ((day : Int) < 0) := by omega
  have n2 : ¬ ((group : Int) < 0) := by omega
  rw [Diners.row] at g2
  refine fn_walk 18 Tryz.call95 Tryz.func95 rfl (by decide) fun J => ?_
  simp (maxSteps := 4000000) only [go_sem, St.start, Tryz.ntmps95, Tryz.results95, Kitchen.cells]
  repeat (first | refine walkL_seq ?_ | refine walkL_skip ?_ | refine walkL_block ?_ | (refine walkL_region fun K hK => ?_; simp (maxSteps := 4000000) only [go_sem, g1, g2, n1, n2]; refine hK _ ?_; clear hK K) | refine walkL_nil ?_ | refine walkL_ret ?_ | refine walkL_exit ?_ | refine blockA_here ?_ | refine blockA_other rfl ?_ | refine blockA_ret ?_ | refine blockA_normal ?_ | refine thenA_ret ?_ | refine thenA_exit ?_ | refine thenA_normal ?_)
  simp (maxSteps := 4000000) only [go_sem]
def clrTo (k : Kitchen) (day : Int) (l : List Int) (w : Int) : Nat → List Int × Int
  | 0 => (l, w)
  | j + 1 => if (batAt k j).last < day then ((clrTo k day l w j).1.set j 0, (clrTo k day l w j).2 + getI (clrTo k day l w j).1 (j : Int)) else clrTo k day l w j
theorem clrTo_len (k : Kitchen) (day : Int) (l : List Int) (w : Int) : ∀ j, (clrTo k day l w j).1.length = l.length
  | 0 => rfl
  | j + 1 => by
    rw [clrTo]
    split
    · simp [clrTo_len k day l w j]
    · exact clrTo_len k day l w j
def AmtOk (l : List Int) : Prop := ∀ x ∈ l, 0 ≤ x ∧ x ≤ 1000000
theorem AmtOk.get {l : List Int} (h : AmtOk l) (i : Int) : 0 ≤ getI l i ∧ getI l i ≤ 1000000 := getI_in h (by decide) i
theorem AmtOk.set {l : List Int} (h : AmtOk l) (i : Nat) {x : Int} (hx : 0 ≤ x ∧ x ≤ 1000000) : AmtOk (l.set i x) := fun y hy => by
  rcases List.mem_or_eq_of_mem_set hy with hy | rfl
  · exact h y hy
  · exact hx
theorem clrTo_ok {k : Kitchen} {day : Int} {l : List Int} {w : Int} (h : AmtOk l) : ∀ j, AmtOk (clrTo k day l w j).1 ∧ w ≤ (clrTo k day l w j).2 ∧ (clrTo k day l w j).2 ≤ w + 1000000 * j
  | 0 => ⟨h, Int.le_refl _, by simp [clrTo]⟩
  | j + 1 => by
    obtain ⟨h1, h2, h3⟩ := clrTo_ok (k := k) (day := day) (w := w) h j
    rw [clrTo]
    split
    · have := h1.get (j : Int)
      refine ⟨h1.set j (by decide), ?_, ?_⟩ <;> dsimp only <;> omega
    · exact ⟨h1, h2, by omega⟩
theorem zf86 (k : Kitchen) (hb : k.batches.length ≤ 10) (day : Int) (l : List Int) (o : List Nat) (w : Int) (hl : l.length = k.batches.length) (ha : AmtOk l) (hw0 : 0 ≤ w ∧ w ≤ 2 ^ 40) :
    FnG Tryz.prog 86 [.box (lardRow k (.own 1) (.own 2) w), .arr 3 1 (intRows l), .arr 3 1 (natRows o)] [0] [.box 0 0, .d (.i day)] (.tup [])
      [.box (lardRow k (.own 1) (.own 2) (clrTo k day l w k.batches.length).2), .arr 3 1 (intRows (clrTo k day l w k.batches.length).1), .arr 3 1 (natRows o)] := by
  have hst0 : clrTo k day l w 0 = (l, w) := rfl
  obtain ⟨R, hR⟩ : ∃ R, R = clrTo k day l w := ⟨_, rfl⟩
  have hRl : ∀ j, (R j).1.length = l.length := by rw [hR]; exact clrTo_len k day l w
  have hRo : ∀ j, AmtOk (R j).1 ∧ w ≤ (R j).2 ∧ (R j).2 ≤ w + 1000000 * j := by rw [hR]; exact clrTo_ok ha
  have hRs : ∀ j, R (j + 1) = if (batAt k j).last < day then ((R j).1.set j 0, (R j).2 + getI (R j).1 (j : Int)) else R j := by rw [hR]; exact fun j => rfl
  rw [← hR] at hst0
  rw [show clrTo k day l w = R from hR.symm]
  refine fnG_walk 43 Tryz.call86 Tryz.func86 rfl (by decide) [] [(0, 0)] (by simp only [List.length_cons, List.length_nil]; decide) (by kernel_rfl) fun J => ?_
  simp (maxSteps := 4000000) only [go_sem, St.startG, Tryz.ntmps86, Tryz.results86, List.map_cons, List.map_nil, List.range_succ,  lardRow]
  repeat (first | refine walkL_seq ?_ | refine walkL_skip ?_ | refine walkL_block ?_ | (refine walkL_region fun K hK => ?_; simp (maxSteps := 4000000) only [go_sem]; refine hK _ ?_; clear hK K) | refine walkL_nil ?_ | refine walkL_ret ?_ | refine walkL_exit ?_ | refine blockA_here ?_ | refine blockA_other rfl ?_ | refine blockA_ret ?_ | refine blockA_normal ?_ | refine thenA_ret ?_ | refine thenA_exit ?_ | refine thenA_normal ?_)
  refine walkL_loopS (fun (i : Nat) => [(13, .d (.i (i : Int)))]) (fun i => [(43, some (.box (lardRow k (.own 44) (.own 45) (R i).2))), (44, some (.arr 3 1 (intRows (R i).1)))]) (fun i => i ≤ k.batches.length) (fun i => k.batches.length - i) 0 ?_ (Nat.zero_le _) ?_
  · rw [hst0]
    simp (maxSteps := 4000000) only [go_sem, lardRow]
    refine weak_of [] ?_ ?_ rfl rfl <;> simp [lessT, lessM, lessB, AV.less]
    all_goals first | done | rfl | trace_state
  · intro i hi
    have hAl := hRl i
    obtain ⟨hok, hw1, hw2⟩ := hRo i
    have hnx := hRs i
    obtain ⟨⟨A, v⟩, hAv⟩ : ∃ p, R i = p := ⟨_, rfl⟩
    rw [hAv] at hAl hok hw1 hw2 hnx ⊢
    dsimp only at hAl hok hw1 hw2 hnx ⊢
    simp (maxSteps := 4000000) only [go_sem, lardRow]
    repeat (first | refine walkL_seq ?_ | refine walkL_skip ?_ | refine walkL_block ?_ | (refine walkL_region fun K hK => ?_; simp (maxSteps := 4000000) only [go_sem]; refine hK _ ?_; clear hK K) | refine walkL_nil ?_ | refine walkL_ret ?_ | refine walkL_exit ?_ | refine blockA_here ?_ | refine blockA_other rfl ?_ | refine blockA_ret ?_ | refine blockA_normal ?_ | refine thenA_ret ?_ | refine thenA_exit ?_ | refine thenA_normal ?_)
    refine walkL_cond rfl (fun hb2 => ?_) (fun hb2 => ?_)
    · have hlt : i < k.batches.length := by simpa using hb2
      have hw : IntKind.i64.wrap ((i : Int) + 1) = ((i + 1 : Nat) : Int) := by rw [wr_small (by omega)]; simp
      have gb := bat_at hlt
      rw [Batch.row] at gb
      have hni : ¬ ((i : Int) < 0) := by omega
      have hiA : i < A.length := by omega
      have gA := intRows_getI hiA
      have hg := hok.get (i : Int)
      have e1 : IntKind.i64.wrap (v + getI A (i : Int)) = v + getI A (i : Int) := wr_small (by omega)
      have su : (intRows A).set i [.i 0] = intRows (A.set i 0) := intRows_set A i 0
      by_cases hq : (batAt k i).last < day
      · rw [if_pos hq] at hnx
        have d : decide ((batAt k i).last < day) = true := decide_eq_true hq
        repeat (first | refine walkL_true rfl ?_ | refine walkL_false rfl ?_ | refine walkL_seq ?_ | refine walkL_skip ?_ | refine walkL_block ?_ | (refine walkL_region fun K hK => ?_; simp (maxSteps := 4000000) only [go_sem, gb, d]; refine hK _ ?_; clear hK K) | refine walkL_nil ?_ | refine walkL_ret ?_ | refine walkL_exit ?_ | refine blockA_here ?_ | refine blockA_other rfl ?_ | refine blockA_ret ?_ | refine blockA_normal ?_ | refine thenA_ret ?_ | refine thenA_exit ?_ | refine thenA_normal ?_)
        refine walkL_drawn (by kernel_rfl) (by kernel_rfl) fun K hK => ?_
        simp (maxSteps := 4000000) only [go_sem, hni, hiA, gA, e1]
        refine ⟨by kernel_rfl, hK _ ?_⟩
        clear hK K
        repeat (first | refine walkL_seq ?_ | refine walkL_skip ?_ | refine walkL_block ?_ | (refine walkL_region fun K hK => ?_; simp (maxSteps := 4000000) only [go_sem, hni, hiA, gA, su, hw]; refine hK _ ?_; clear hK K) | refine walkL_nil ?_ | refine walkL_ret ?_ | refine walkL_exit ?_ | refine blockA_here ?_ | refine blockA_other rfl ?_ | refine blockA_ret ?_ | refine blockA_normal ?_ | refine thenA_ret ?_ | refine thenA_exit ?_ | refine thenA_normal ?_)
        refine ⟨rfl, i + 1, ?_, hlt, by omega⟩
        rw [hnx]
        simp (maxSteps := 4000000) only [go_sem, lardRow]
        refine weak_of [] ?_ ?_ rfl rfl <;> simp [lessT, lessM, lessB, AV.less]
        all_goals first | done | rfl | trace_state
      · rw [if_neg hq] at hnx
        have d : decide ((batAt k i).last < day) = false := decide_eq_false hq
        repeat (first | refine walkL_true rfl ?_ | refine walkL_false rfl ?_ | refine walkL_seq ?_ | refine walkL_skip ?_ | refine walkL_block ?_ | (refine walkL_region fun K hK => ?_; simp (maxSteps := 4000000) only [go_sem, gb, d, hw]; refine hK _ ?_; clear hK K) | refine walkL_nil ?_ | refine walkL_ret ?_ | refine walkL_exit ?_ | refine blockA_here ?_ | refine blockA_other rfl ?_ | refine blockA_ret ?_ | refine blockA_normal ?_ | refine thenA_ret ?_ | refine thenA_exit ?_ | refine thenA_normal ?_)
        refine ⟨rfl, i + 1, ?_, hlt, by omega⟩
        rw [hnx]
        simp (maxSteps := 4000000) only [go_sem, lardRow]
        refine weak_of [] ?_ ?_ rfl rfl <;> simp [lessT, lessM, lessB, AV.less]
        all_goals first | done | rfl | trace_state
    · have he : i = k.batches.length := by (have : ¬ i < k.batches.length := by simpa using hb2); omega
      subst he
      rw [hAv]
      repeat (first | refine walkL_seq ?_ | refine walkL_skip ?_ | refine walkL_block ?_ | (refine walkL_region fun K hK => ?_; simp (maxSteps := 4000000) only [go_sem]; refine hK _ ?_; clear hK K) | refine walkL_nil ?_ | refine walkL_ret ?_ | refine walkL_exit ?_ | refine blockA_here ?_ | refine blockA_other rfl ?_ | refine blockA_ret ?_ | refine blockA_normal ?_ | refine thenA_ret ?_ | refine thenA_exit ?_ | refine thenA_normal ?_)
      simp (maxSteps := 4000000) only [go_sem, retG, lardRow]
end Go.Ab
namespace Go.Ab
open Go.RowKit Go.Proofs
set_option maxHeartbeats 16000000
set_option maxRecDepth 20000
attribute [local irreducible] WalkL Walk
def needG (k : Kitchen) (ds : List Int) (cnt : Nat → Int) (good : Nat) : Nat → Int
  | 0 => 0
  | g + 1 => needG k ds cnt good g + getI (dishAt k (getI ds (g : Int))).needs (good : Int) * cnt g
def needL (k : Kitchen) (ds : List Int) (cnt : Nat → Int) : List Int := (List.range k.allerg.length).map fun x => needG k ds cnt x ds.length
theorem dish_need {k : Kitchen} (hg : KitGood k) {n : Nat} (h : n < k.dishes.length) (i : Int) : 0 ≤ getI (dishAt k (n : Int)).needs i ∧ getI (dishAt k (n : Int)).needs i ≤ 5000 := by
  obtain ⟨x, hx⟩ : ∃ x, k.dishes[n]? = some x := ⟨_, List.getElem?_eq_getElem h⟩
  have : dishAt k (n : Int) = x := by rw [dishAt, Int.toNat_natCast, List.getD, hx]; rfl
  rw [this]
  exact getI_in (hg.needs x (List.mem_of_getElem? hx)).2 (by decide) i
structure DayOk (k : Kitchen) (ds : List Int) (cnt : Nat → Int) : Prop where
  len : ds.length ≤ 3
  dish : ∀ g < ds.length, ∃ n : Nat, ds[g]? = some (n : Int) ∧ n < k.dishes.length
  cnt : ∀ g < ds.length, 0 ≤ cnt g ∧ cnt g ≤ 100
theorem need_range {k : Kitchen} (hg : KitGood k) {ds : List Int} {cnt : Nat → Int} (hd : DayOk k ds cnt) (good : Nat) : ∀ g : Nat, g ≤ ds.length → 0 ≤ needG k ds cnt good g ∧ needG k ds cnt good g ≤ 500000 * g
  | 0, _ => by simp [needG]
  | g + 1, h => by
    have ih := need_range hg hd good g (by omega)
    obtain ⟨n, hn, hnl⟩ := hd.dish g (by omega)
    have hc := hd.cnt g (by omega)
    have e : getI ds (g : Int) = n := by rw [getI, Int.toNat_natCast, List.getD, hn]; rfl
    have q := dish_need hg hnl (good : Int)
    have m1 : 0 ≤ getI (dishAt k (n : Int)).needs (good : Int) * cnt g := Int.mul_nonneg q.1 hc.1
    have m2 : getI (dishAt k (n : Int)).needs (good : Int) * cnt g ≤ 5000 * 100 := Int.mul_le_mul q.2 hc.2 hc.1 (by decide)
    rw [needG, e]
    omega
def mixL (G : Nat) (a b : Nat → Int) (j : Nat) : List Int := (List.range G).map fun x => if x < j then b x else a x
theorem mixL_len (G : Nat) (a b : Nat → Int) (j : Nat) : (mixL G a b j).length = G := by simp [mixL]
theorem mixL_at (G : Nat) (a b : Nat → Int) {j : Nat} (h : j < G) : (mixL G a b j)[j]? = some (a j) := by simp [mixL, h]
theorem mixL_set (G : Nat) (a b : Nat → Int) {j : Nat} (h : j < G) : (mixL G a b j).set j (b j) = mixL G a b (j + 1) := by
  refine List.ext_getElem? fun i => ?_
  rw [List.getElem?_set, mixL_len]
  by_cases hi : i < G
  · by_cases he : j = i
    · subst he
      rw [if_pos rfl, if_pos hi]
      simp [mixL, hi]
    · rw [if_neg he]
      have : (i < j + 1) = (i < j) := by apply propext; omega
      simp [mixL, hi, this]
  · rw [List.getElem?_eq_none (l := mixL G a b (j + 1)) (by rw [mixL_len]; omega)]
    by_cases he : j = i
    · omega
    · rw [if_neg he, List.getElem?_eq_none (by rw [mixL_len]; omega)]
theorem mixL_all (G : Nat) (a b : Nat → Int) : mixL G a b G = (List.range G).map b := by
  unfold mixL
  refine List.map_congr_left fun x hx => ?_
  rw [if_pos (List.mem_range.1 hx)]
theorem mixL_none (G : Nat) (a b : Nat → Int) : mixL G a b 0 = (List.range G).map a := by
  unfold mixL
  refine List.map_congr_left fun x hx => ?_
  rw [if_neg (by omega)]
theorem zf87 (k : Kitchen) (hg : KitGood k) (ds : List Int) (cnt : Nat → Int) (g : Nat) (caps : List DV) (hd : DayOk k ds cnt) (hc : ∀ j, j < ds.length → Fn Tryz.prog g (.i (j : Int) :: caps) (.i (cnt j))) :
    FnS Tryz.prog 87 [.agg k.cells, .sl (intRows ds), .fn g caps] 3 1 (intRows (needL k ds cnt)) := by
  have hgo := hg.goods
  have hdl := hd.len
  have hmk : (k.allerg.length : Int) ≤ 1099511627776 := by omega
  have hrep := intRows_rep k.allerg.length
  unfold needL
  obtain ⟨G, hG⟩ : ∃ G, G = k.allerg.length := ⟨_, rfl⟩
  obtain ⟨f, hf⟩ : ∃ f : Nat → Nat → Int, f = fun i x => needG k ds cnt x i := ⟨_, rfl⟩
  have hf0 : intRows (List.replicate G 0) = intRows ((List.range G).map (f 0)) := by
    rw [hf]
    congr 1
    refine List.ext_getElem? fun i => ?_
    by_cases hi : i < G <;> simp [hi, needG, List.getElem?_replicate]
  have hfr : ∀ i x, i ≤ ds.length → 0 ≤ f i x ∧ f i x ≤ 500000 * i := fun i x hi => by rw [hf]; exact need_range hg hd x i hi
  have hfs : ∀ i x, f (i + 1) x = f i x + getI (dishAt k (getI ds (i : Int))).needs (x : Int) * cnt i := fun i x => by rw [hf]; rfl
  rw [show (fun x => needG k ds cnt x ds.length) = f ds.length by rw [hf]]
  rw [← hG] at hmk hrep hgo ⊢
  refine fnS_walk 51 Tryz.call87 Tryz.func87 rfl (by decide) fun J => ?_
  simp (maxSteps := 4000000) only [go_sem, St.start, Tryz.ntmps87, Tryz.results87, Kitchen.cells]
  repeat (first | refine walkL_seq ?_ | refine walkL_skip ?_ | refine walkL_block ?_ | (refine walkL_region fun K hK => ?_; simp (maxSteps := 4000000) only [go_sem, ← hG, hmk, hrep]; refine hK _ ?_; clear hK K) | refine walkL_nil ?_ | refine walkL_ret ?_ | refine walkL_exit ?_ | refine blockA_here ?_ | refine blockA_other rfl ?_ | refine blockA_ret ?_ | refine blockA_normal ?_ | refine thenA_ret ?_ | refine thenA_exit ?_ | refine thenA_normal ?_)
  refine walkL_loopS (fun (i : Nat) => [(19, .d (.i (i : Int)))]) (fun i => [(16, some (.arr 3 1 (intRows ((List.range G).map (f i)))))]) (fun i => i ≤ ds.length) (fun i => ds.length - i) 0 ?_ (Nat.zero_le _) ?_
  · rw [← hf0]
    simp (maxSteps := 4000000) only [go_sem]
    refine weak_of [] ?_ ?_ rfl rfl <;> simp [lessT, lessM, lessB, AV.less]
    all_goals first | done | rfl | trace_state
  · intro i hi
    simp (maxSteps := 4000000) only [go_sem]
    repeat (first | refine walkL_seq ?_ | refine walkL_skip ?_ | refine walkL_block ?_ | (refine walkL_region fun K hK => ?_; simp (maxSteps := 4000000) only [go_sem]; refine hK _ ?_; clear hK K) | refine walkL_nil ?_ | refine walkL_ret ?_ | refine walkL_exit ?_ | refine blockA_here ?_ | refine blockA_other rfl ?_ | refine blockA_ret ?_ | refine blockA_normal ?_ | refine thenA_ret ?_ | refine thenA_exit ?_ | refine thenA_normal ?_)
    refine walkL_cond rfl (fun hb => ?_) (fun hb => ?_)
    · have hlt : i < ds.length := by simpa using hb
      have hw : IntKind.i64.wrap ((i : Int) + 1) = ((i + 1 : Nat) : Int) := by rw [wr_small (by omega)]; simp
      obtain ⟨n, hn, hnl⟩ := hd.dish i hlt
      have g1 := intRows_at hn
      have gd := dish_at hnl
      have hl := dish_len hg hnl
      have hnn : ¬ ((n : Int) < 0) := by omega
      have hci := hc i hlt
      have hcr := hd.cnt i hlt
      have e : getI ds (i : Int) = n := by rw [getI, Int.toNat_natCast, List.getD, hn]; rfl
      have hq := fun x : Nat => dish_need hg hnl (x : Int)
      have hfi := hfs i
      rw [e] at hfi
      obtain ⟨N, hN⟩ : ∃ N, N = (dishAt k (n : Int)).needs := ⟨_, rfl⟩
      rw [← hN, ← hG] at hl
      rw [← hN] at gd
      rw [← hN] at hq hfi
      repeat (first | refine walkL_seq ?_ | refine walkL_skip ?_ | refine walkL_block ?_ | (refine walkL_region fun K hK => ?_; simp (maxSteps := 4000000) only [go_sem, g1, gd, hnn, hl]; refine hK _ ?_; clear hK K) | refine walkL_nil ?_ | refine walkL_ret ?_ | refine walkL_exit ?_ | refine blockA_here ?_ | refine blockA_other rfl ?_ | refine blockA_ret ?_ | refine blockA_normal ?_ | refine thenA_ret ?_ | refine thenA_exit ?_ | refine thenA_normal ?_)
      have m0 := mixL_none G (f i) (f (i + 1))
      refine walkL_loopS (fun (j : Nat) => [(32, .d (.i (j : Int)))]) (fun j => [(16, some (.arr 3 1 (intRows (mixL G (f i) (f (i + 1)) j))))]) (fun j => j ≤ G) (fun j => G - j) 0 ?_ (Nat.zero_le _) ?_
      · rw [m0]
        simp (maxSteps := 4000000) only [go_sem]
        refine weak_of [] ?_ ?_ rfl rfl <;> simp [lessT, lessM, lessB, AV.less]
        all_goals first | done | rfl | trace_state
      · intro j hj
        have hMl := mixL_len G (f i) (f (i + 1)) j
        simp (maxSteps := 4000000) only [go_sem]
        repeat (first | refine walkL_seq ?_ | refine walkL_skip ?_ | refine walkL_block ?_ | (refine walkL_region fun K hK => ?_; simp (maxSteps := 4000000) only [go_sem, hl]; refine hK _ ?_; clear hK K) | refine walkL_nil ?_ | refine walkL_ret ?_ | refine walkL_exit ?_ | refine blockA_here ?_ | refine blockA_other rfl ?_ | refine blockA_ret ?_ | refine blockA_normal ?_ | refine thenA_ret ?_ | refine thenA_exit ?_ | refine thenA_normal ?_)
        refine walkL_cond rfl (fun hb => ?_) (fun hb => ?_)
        · have hltj : j < G := by simpa using hb
          have hwj : IntKind.i64.wrap ((j : Int) + 1) = ((j + 1 : Nat) : Int) := by rw [wr_small (by omega)]; simp
          have hnj : ¬ ((j : Int) < 0) := by omega
          have gN := intRows_getI (l := N) (i := j) (by omega)
          have gM := intRows_at (mixL_at G (f i) (f (i + 1)) hltj)
          have r1 := hfr i j (by omega)
          have r2 := hq j
          have m1 : 0 ≤ getI N (j : Int) * cnt i := Int.mul_nonneg r2.1 hcr.1
          have m2 : getI N (j : Int) * cnt i ≤ 5000 * 100 := Int.mul_le_mul r2.2 hcr.2 hcr.1 (by decide)
          have e1 : IntKind.i64.wrap (getI N (j : Int) * cnt i) = getI N (j : Int) * cnt i := wr_small (by omega)
          have e2 : IntKind.i64.wrap (f i j + getI N (j : Int) * cnt i) = f (i + 1) j := by rw [wr_small (by omega), hfi j]
          have su : (intRows (mixL G (f i) (f (i + 1)) j)).set j [.i (f (i + 1) j)] = intRows (mixL G (f i) (f (i + 1)) (j + 1)) := by rw [intRows_set, mixL_set _ _ _ hltj]
          obtain ⟨M, hM⟩ : ∃ M, M = mixL G (f i) (f (i + 1)) j := ⟨_, rfl⟩
          rw [← hM] at gM su hMl ⊢
          have hjM : j < M.length := by omega
          repeat (first | refine walkL_seq ?_ | refine walkL_skip ?_ | refine walkL_block ?_ | (refine walkL_region fun K hK => ?_; simp (maxSteps := 4000000) only [go_sem, gN]; refine hK _ ?_; clear hK K) | refine walkL_nil ?_ | refine walkL_ret ?_ | refine walkL_exit ?_ | refine blockA_here ?_ | refine blockA_other rfl ?_ | refine blockA_ret ?_ | refine blockA_normal ?_ | refine thenA_ret ?_ | refine thenA_exit ?_ | refine thenA_normal ?_)
          refine walkL_drawn (by kernel_rfl) (by kernel_rfl) fun K hK => ?_
          simp (maxSteps := 4000000) only [go_sem, gM, hjM, hnj]
          refine ⟨_, .fn (hf := hci) (hd := reify_caps _ _ _ _ rfl) (hr := .inl rfl), ?_⟩
          simp (maxSteps := 4000000) only [go_sem, gM, hjM, hnj, e1, e2, su]
          refine ⟨by kernel_rfl, hK _ ?_⟩
          clear hK K
          repeat (first | refine walkL_seq ?_ | refine walkL_skip ?_ | refine walkL_block ?_ | (refine walkL_region fun K hK => ?_; simp (maxSteps := 4000000) only [go_sem, hwj]; refine hK _ ?_; clear hK K) | refine walkL_nil ?_ | refine walkL_ret ?_ | refine walkL_exit ?_ | refine blockA_here ?_ | refine blockA_other rfl ?_ | refine blockA_ret ?_ | refine blockA_normal ?_ | refine thenA_ret ?_ | refine thenA_exit ?_ | refine thenA_normal ?_)
          refine ⟨rfl, j + 1, ?_, hltj, by omega⟩
          refine weak_of [] ?_ ?_ rfl rfl <;> simp [lessT, lessM, lessB, AV.less]
          all_goals first | done | rfl | trace_state
        · have he : j = G := by (have : ¬ j < G := by simpa using hb); omega
          subst he
          rw [mixL_all]
          repeat (first | refine walkL_seq ?_ | refine walkL_skip ?_ | refine walkL_block ?_ | (refine walkL_region fun K hK => ?_; simp (maxSteps := 4000000) only [go_sem, hw]; refine hK _ ?_; clear hK K) | refine walkL_nil ?_ | refine walkL_ret ?_ | refine walkL_exit ?_ | refine blockA_here ?_ | refine blockA_other rfl ?_ | refine blockA_ret ?_ | refine blockA_normal ?_ | refine thenA_ret ?_ | refine thenA_exit ?_ | refine thenA_normal ?_)
          refine ⟨rfl, i + 1, ?_, hlt, by omega⟩
          refine weak_of [] ?_ ?_ rfl rfl <;> simp [lessT, lessM, lessB, AV.less]
          all_goals first | done | rfl | trace_state
    · have he : i = ds.length := by (have : ¬ i < ds.length := by simpa using hb); omega
      subst he
      repeat (first | refine walkL_seq ?_ | refine walkL_skip ?_ | refine walkL_block ?_ | (refine walkL_region fun K hK => ?_; simp (maxSteps := 4000000) only [go_sem]; refine hK _ ?_; clear hK K) | refine walkL_nil ?_ | refine walkL_ret ?_ | refine walkL_exit ?_ | refine blockA_here ?_ | refine blockA_other rfl ?_ | refine blockA_ret ?_ | refine blockA_normal ?_ | refine thenA_ret ?_ | refine thenA_exit ?_ | refine thenA_normal ?_)
      simp (maxSteps := 4000000) only [go_sem]
end Go.Ab
namespace Go.Ab
open Go.RowKit Go.Proofs
set_option maxHeartbeats 16000000
set_option maxRecDepth 20000
attribute [local irreducible] WalkL Walk
def takeStep (k : Kitchen) (good : Nat) (a : List Int × Int) (i : Nat) : List Int × Int :=
  if (batAt k i).good = (good : Int) then (a.1.set i (getI a.1 (i : Int) - min a.2 (getI a.1 (i : Int))), a.2 - min a.2 (getI a.1 (i : Int))) else a
def takeG (k : Kitchen) (o : List Nat) (good : Nat) (l : List Int) (need : Int) : List Int × Int := o.foldl (takeStep k good) (l, need)
def takeTo (k : Kitchen) (o : List Nat) (needs l : List Int) : Nat → Option (List Int)
  | 0 => some l
  | g + 1 => match takeTo k o needs l g with
    | none => none
    | some c => if (takeG k o g c (getI needs (g : Int))).2 > 0 then none else some (takeG k o g c (getI needs (g : Int))).1
theorem takeStep_ok {k : Kitchen} {good : Nat} {a : List Int × Int} {i : Nat} (h : AmtOk a.1) (hn : 0 ≤ a.2) : AmtOk (takeStep k good a i).1 ∧ (takeStep k good a i).1.length = a.1.length ∧ 0 ≤ (takeStep k good a i).2 ∧ (takeStep k good a i).2 ≤ a.2 := by
  unfold takeStep
  have hg := h.get (i : Int)
  split
  · refine ⟨h.set i (by omega), by simp, ?_, ?_⟩ <;> dsimp only <;> omega
  · exact ⟨h, rfl, hn, Int.le_refl _⟩
theorem takeG_ok {k : Kitchen} {good : Nat} : ∀ (o : List Nat) {a : List Int × Int}, AmtOk a.1 → 0 ≤ a.2 → AmtOk (o.foldl (takeStep k good) a).1 ∧ (o.foldl (takeStep k good) a).1.length = a.1.length ∧ 0 ≤ (o.foldl (takeStep k good) a).2 ∧ (o.foldl (takeStep k good) a).2 ≤ a.2
  | [], a, h, hn => ⟨h, rfl, hn, Int.le_refl _⟩
  | i :: o, a, h, hn => by
    obtain ⟨h1, h2, h3, h4⟩ := takeStep_ok (k := k) (good := good) (i := i) h hn
    obtain ⟨k1, k2, k3, k4⟩ := takeG_ok o h1 h3
    rw [List.foldl_cons]
    exact ⟨k1, by rw [k2, h2], k3, by omega⟩
theorem takeTo_ok {k : Kitchen} {o : List Nat} {needs l : List Int} (h : AmtOk l) (hn : ∀ x ∈ needs, 0 ≤ x) : ∀ (g : Nat) (c : List Int), takeTo k o needs l g = some c → AmtOk c ∧ c.length = l.length
  | 0, c, hc => by cases hc; exact ⟨h, rfl⟩
  | g + 1, c, hc => by
    rw [takeTo] at hc
    cases hx : takeTo k o needs l g with
    | none => rw [hx] at hc; cases hc
    | some d =>
      rw [hx] at hc
      dsimp only at hc
      split at hc
      · cases hc
      · cases hc
        obtain ⟨d1, d2⟩ := takeTo_ok h hn g d hx
        have hng : 0 ≤ getI needs (g : Int) := by
          unfold getI List.getD
          cases hy : needs[((g : Int)).toNat]? with
          | none => simp
          | some y => exact hn y (List.mem_of_getElem? hy)
        obtain ⟨k1, k2, _⟩ := takeG_ok (k := k) (good := g) o (a := (d, getI needs (g : Int))) d1 hng
        exact ⟨k1, by rw [takeG, k2, d2]⟩
theorem takeTo_none {k : Kitchen} {o : List Nat} {needs l : List Int} {g : Nat} (h : takeTo k o needs l g = none) : ∀ {m : Nat}, g ≤ m → takeTo k o needs l m = none := by
  intro m hm
  induction hm with
  | refl => exact h
  | step _ ih => rw [takeTo, ih]
def takeBlks (k : Kitchen) (w : Int) (l : List Int) (o : List Nat) : Option (List Int) → List Blk
  | none => [.box (lardRow k (.own 1) (.own 2) w), .arr 3 1 (intRows l), .arr 3 1 (natRows o)]
  | some c => [.box (lardRow k (.own 3) (.own 2) w), .arr 3 1 (intRows l), .arr 3 1 (natRows o), .arr 3 1 (intRows c)]
theorem zf141 (k : Kitchen) (needs l : List Int) (o : List Nat) (w : Int) (hl : l.length = k.batches.length) (hbl : k.batches.length ≤ 10) (ha : AmtOk l) (hn : ∀ x ∈ needs, 0 ≤ x ∧ x ≤ 2 ^ 40) (hnl : needs.length ≤ 6) (ho : ∀ x ∈ o, x < k.batches.length) (hol : o.length ≤ 10) :
    FnG Tryz.prog 141 [.box (lardRow k (.own 1) (.own 2) w), .arr 3 1 (intRows l), .arr 3 1 (natRows o)] [0] [.box 0 0, .d (.sl (intRows needs))] (.d (.bool (takeTo k o needs l needs.length).isSome)) (takeBlks k w l o (takeTo k o needs l needs.length)) := by
  have h184 := zf184 l (by omega)
  have hn0 : ∀ x ∈ needs, 0 ≤ x := fun x hx => (hn x hx).1
  have hto := fun g c hc => takeTo_ok (k := k) (o := o) ha hn0 g c hc
  cases hres : takeTo k o needs l needs.length with
  | none =>
    refine fnG_walk 68 Tryz.call141 Tryz.func141 rfl (by decide) [] [(0, 0)] (by simp only [List.length_cons, List.length_nil]; decide) (by kernel_rfl) fun J => ?_
    simp (maxSteps := 4000000) only [go_sem, St.startG, Tryz.ntmps141, Tryz.results141, List.map_cons, List.map_nil, List.range_succ,  lardRow]
    repeat (first | refine walkL_seq ?_ | refine walkL_skip ?_ | refine walkL_block ?_ | (refine walkL_region fun K hK => ?_; simp (maxSteps := 4000000) only [go_sem]; refine hK _ ?_; clear hK K) | refine walkL_nil ?_ | refine walkL_ret ?_ | refine walkL_exit ?_ | refine blockA_here ?_ | refine blockA_other rfl ?_ | refine blockA_ret ?_ | refine blockA_normal ?_ | refine thenA_ret ?_ | refine thenA_exit ?_ | refine thenA_normal ?_)
    refine walkL_region fun K hK => ?_
    simp (maxSteps := 4000000) only [go_sem]
    refine ⟨_, .lentS (hdst := rfl) (hf := h184) (hd := rfl) (hr := rowsFlat_int _) (hfr := rfl), ?_⟩
    simp (maxSteps := 4000000) only [go_sem]
    refine hK _ ?_
    clear hK K
    repeat (first | refine walkL_seq ?_ | refine walkL_skip ?_ | refine walkL_block ?_ | (refine walkL_region fun K hK => ?_; simp (maxSteps := 4000000) only [go_sem]; refine hK _ ?_; clear hK K) | refine walkL_nil ?_ | refine walkL_ret ?_ | refine walkL_exit ?_ | refine blockA_here ?_ | refine blockA_other rfl ?_ | refine blockA_ret ?_ | refine blockA_normal ?_ | refine thenA_ret ?_ | refine thenA_exit ?_ | refine thenA_normal ?_)
    refine walkL_loopS (fun (q : Nat × List Int) => [(18, .d (.i (q.1 : Int)))]) (fun q => [(15, some (.arr 3 1 (intRows q.2)))]) (fun q => q.1 ≤ needs.length ∧ takeTo k o needs l q.1 = some q.2) (fun q => needs.length - q.1) (0, l) ?_ ⟨Nat.zero_le _, rfl⟩ ?_
    · simp (maxSteps := 4000000) only [go_sem]
      refine weak_of [] ?_ ?_ rfl rfl <;> simp [lessT, lessM, lessB, AV.less]
      all_goals first | done | rfl | trace_state
    · rintro ⟨g, cur⟩ ⟨hg, hcur⟩
      dsimp only at hg hcur
      obtain ⟨hco, hcl⟩ := hto g cur hcur
      simp (maxSteps := 4000000) only [go_sem]
      repeat (first | refine walkL_seq ?_ | refine walkL_skip ?_ | refine walkL_block ?_ | (refine walkL_region fun K hK => ?_; simp (maxSteps := 4000000) only [go_sem]; refine hK _ ?_; clear hK K) | refine walkL_nil ?_ | refine walkL_ret ?_ | refine walkL_exit ?_ | refine blockA_here ?_ | refine blockA_other rfl ?_ | refine blockA_ret ?_ | refine blockA_normal ?_ | refine thenA_ret ?_ | refine thenA_exit ?_ | refine thenA_normal ?_)
      refine walkL_cond rfl (fun hb => ?_) (fun hb => ?_)
      · have hlt : g < needs.length := by simpa using hb
        have hw : IntKind.i64.wrap ((g : Int) + 1) = ((g + 1 : Nat) : Int) := by rw [wr_small (by omega)]; simp
        have gn := intRows_getI hlt
        have hnx : takeTo k o needs l (g + 1) = if (takeG k o g cur (getI needs (g : Int))).2 > 0 then none else some (takeG k o g cur (getI needs (g : Int))).1 := by rw [takeTo, hcur]
        have hnr : 0 ≤ getI needs (g : Int) ∧ getI needs (g : Int) ≤ 2 ^ 40 := getI_in hn (by decide) _
        obtain ⟨N, hN⟩ : ∃ N, N = getI needs (g : Int) := ⟨_, rfl⟩
        rw [← hN] at gn hnx hnr
        repeat (first | refine walkL_seq ?_ | refine walkL_skip ?_ | refine walkL_block ?_ | (refine walkL_region fun K hK => ?_; simp (maxSteps := 4000000) only [go_sem, gn]; refine hK _ ?_; clear hK K) | refine walkL_nil ?_ | refine walkL_ret ?_ | refine walkL_exit ?_ | refine blockA_here ?_ | refine blockA_other rfl ?_ | refine blockA_ret ?_ | refine blockA_normal ?_ | refine thenA_ret ?_ | refine thenA_exit ?_ | refine thenA_normal ?_)
        refine walkL_loopS (fun (q : Nat × List Int × Int) => [(28, .d (.i (q.1 : Int))), (7, .d (.i q.2.2))]) (fun q => [(15, some (.arr 3 1 (intRows q.2.1)))]) (fun q => q.1 ≤ o.length ∧ (q.2.1, q.2.2) = (o.take q.1).foldl (takeStep k g) (cur, N) ∧ AmtOk q.2.1 ∧ q.2.1.length = l.length ∧ 0 ≤ q.2.2 ∧ q.2.2 ≤ 2 ^ 40) (fun q => o.length - q.1) (0, cur, N) ?_ ⟨Nat.zero_le _, rfl, hco, hcl, hnr.1, hnr.2⟩ ?_
        · simp (maxSteps := 4000000) only [go_sem]
          refine weak_of [] ?_ ?_ rfl rfl <;> simp [lessT, lessM, lessB, AV.less]
          all_goals first | done | rfl | trace_state
        · rintro ⟨j, A, m⟩ ⟨hj, hfold, hAo, hAl, hm0, hm1⟩
          dsimp only at hj hfold hAo hAl hm0 hm1
          simp (maxSteps := 4000000) only [go_sem]
          repeat (first | refine walkL_seq ?_ | refine walkL_skip ?_ | refine walkL_block ?_ | (refine walkL_region fun K hK => ?_; simp (maxSteps := 4000000) only [go_sem]; refine hK _ ?_; clear hK K) | refine walkL_nil ?_ | refine walkL_ret ?_ | refine walkL_exit ?_ | refine blockA_here ?_ | refine blockA_other rfl ?_ | refine blockA_ret ?_ | refine blockA_normal ?_ | refine thenA_ret ?_ | refine thenA_exit ?_ | refine thenA_normal ?_)
          refine walkL_cond rfl (fun hb => ?_) (fun hb => ?_)
          · have hltj : j < o.length := by simpa using hb
            have hwj : IntKind.i64.wrap ((j : Int) + 1) = ((j + 1 : Nat) : Int) := by rw [wr_small (by omega)]; simp
            have hnj : ¬ ((j : Int) < 0) := by omega
            obtain ⟨x, hx⟩ : ∃ x, o[j]? = some x := ⟨_, List.getElem?_eq_getElem hltj⟩
            have gx := natRows_at hltj
            rw [List.getD, hx, Option.getD_some] at gx
            have hxb := ho x (List.mem_of_getElem? hx)
            have gb := bat_at hxb
            rw [Batch.row] at gb
            have hnx2 : ¬ ((x : Int) < 0) := by omega
            have hxA : x < A.length := by omega
            have gA := intRows_getI hxA
            have hgA := hAo.get (x : Int)
            have hst : (o.take (j + 1)).foldl (takeStep k g) (cur, N) = takeStep k g (A, m) x := by rw [foldl_take_succ _ _ _ _ _ hx, ← hfold]
            have hso := takeStep_ok (k := k) (good := g) (i := x) (a := (A, m)) hAo hm0
            by_cases hq : (batAt k x).good = (g : Int)
            · have d : ((batAt k x).good == (g : Int)) = true := by simp [hq]
              have e0 : takeStep k g (A, m) x = (A.set x (getI A (x : Int) - min m (getI A (x : Int))), m - min m (getI A (x : Int))) := by rw [takeStep, if_pos hq]
              rw [e0] at hst hso
              dsimp only at hso
              have e1 : IntKind.i64.wrap (getI A (x : Int) - min m (getI A (x : Int))) = getI A (x : Int) - min m (getI A (x : Int)) := wr_small (by omega)
              have e2 : IntKind.i64.wrap (m - min m (getI A (x : Int))) = m - min m (getI A (x : Int)) := wr_small (by omega)
              have su := intRows_set A x (getI A (x : Int) - min m (getI A (x : Int)))
              obtain ⟨v, hv⟩ : ∃ v, v = getI A (x : Int) := ⟨_, rfl⟩
              rw [← hv] at gA e1 e2 su hst hso hgA
              obtain ⟨t, ht⟩ : ∃ t, t = min m v := ⟨_, rfl⟩
              rw [← ht] at e1 e2 su hst hso
              have ht' : min m v = t := ht.symm
              repeat (first | refine walkL_true rfl ?_ | refine walkL_false rfl ?_ | refine walkL_seq ?_ | refine walkL_skip ?_ | refine walkL_block ?_ | (refine walkL_region fun K hK => ?_; simp (maxSteps := 4000000) only [go_sem, gx, hnj, hltj, gb, hnx2, d]; refine hK _ ?_; clear hK K) | refine walkL_nil ?_ | refine walkL_ret ?_ | refine walkL_exit ?_ | refine blockA_here ?_ | refine blockA_other rfl ?_ | refine blockA_ret ?_ | refine blockA_normal ?_ | refine thenA_ret ?_ | refine thenA_exit ?_ | refine thenA_normal ?_)
              repeat (first | refine walkL_seq ?_ | refine walkL_skip ?_ | refine walkL_block ?_ | (refine walkL_region fun K hK => ?_; simp (maxSteps := 4000000) only [go_sem, gx, hnj, hltj, gb, hnx2, d, gA, hxA, ht', e1, e2, su, hwj]; refine hK _ ?_; clear hK K) | refine walkL_nil ?_ | refine walkL_ret ?_ | refine walkL_exit ?_ | refine blockA_here ?_ | refine blockA_other rfl ?_ | refine blockA_ret ?_ | refine blockA_normal ?_ | refine thenA_ret ?_ | refine thenA_exit ?_ | refine thenA_normal ?_)
              refine ⟨rfl, (j + 1, A.set x (v - t), m - t), ?_, ⟨hltj, hst.symm, hso.1, by rw [hso.2.1]; exact hAl, hso.2.2.1, by dsimp only; omega⟩, by dsimp only; omega⟩
              refine weak_of [] ?_ ?_ rfl rfl <;> simp [lessT, lessM, lessB, AV.less]
              all_goals first | done | rfl | trace_state
            · have d : ((batAt k x).good == (g : Int)) = false := by simpa using hq
              have e0 : takeStep k g (A, m) x = (A, m) := by rw [takeStep, if_neg hq]
              rw [e0] at hst
              repeat (first | refine walkL_true rfl ?_ | refine walkL_false rfl ?_ | refine walkL_seq ?_ | refine walkL_skip ?_ | refine walkL_block ?_ | (refine walkL_region fun K hK => ?_; simp (maxSteps := 4000000) only [go_sem, gx, hnj, hltj, gb, hnx2, d, hwj]; refine hK _ ?_; clear hK K) | refine walkL_nil ?_ | refine walkL_ret ?_ | refine walkL_exit ?_ | refine blockA_here ?_ | refine blockA_other rfl ?_ | refine blockA_ret ?_ | refine blockA_normal ?_ | refine thenA_ret ?_ | refine thenA_exit ?_ | refine thenA_normal ?_)
              refine ⟨rfl, (j + 1, A, m), ?_, ⟨hltj, hst.symm, hAo, hAl, hm0, hm1⟩, by dsimp only; omega⟩
              refine weak_of [] ?_ ?_ rfl rfl <;> simp [lessT, lessM, lessB, AV.less]
              all_goals first | done | rfl | trace_state
          · have he : j = o.length := by (have : ¬ j < o.length := by simpa using hb); omega
            subst he
            rw [List.take_length] at hfold
            have hG : takeG k o g cur N = (A, m) := hfold.symm
            rw [hG] at hnx
            dsimp only at hnx
            repeat (first | refine walkL_seq ?_ | refine walkL_skip ?_ | refine walkL_block ?_ | (refine walkL_region fun K hK => ?_; simp (maxSteps := 4000000) only [go_sem]; refine hK _ ?_; clear hK K) | refine walkL_nil ?_ | refine walkL_ret ?_ | refine walkL_exit ?_ | refine blockA_here ?_ | refine blockA_other rfl ?_ | refine blockA_ret ?_ | refine blockA_normal ?_ | refine thenA_ret ?_ | refine thenA_exit ?_ | refine thenA_normal ?_)
            refine walkL_cond rfl (fun hb => ?_) (fun hb => ?_)
            · have hpos : m > 0 := by simpa using hb
              rw [if_pos hpos] at hnx
              repeat (first | refine walkL_seq ?_ | refine walkL_skip ?_ | refine walkL_block ?_ | (refine walkL_region fun K hK => ?_; simp (maxSteps := 4000000) only [go_sem]; refine hK _ ?_; clear hK K) | refine walkL_nil ?_ | refine walkL_ret ?_ | refine walkL_exit ?_ | refine blockA_here ?_ | refine blockA_other rfl ?_ | refine blockA_ret ?_ | refine blockA_normal ?_ | refine thenA_ret ?_ | refine thenA_exit ?_ | refine thenA_normal ?_)
              simp (maxSteps := 4000000) only [go_sem, retG, takeBlks, lardRow, Option.isSome_none]
            · have hpos : ¬ m > 0 := by simpa using hb
              rw [if_neg hpos] at hnx
              repeat (first | refine walkL_seq ?_ | refine walkL_skip ?_ | refine walkL_block ?_ | (refine walkL_region fun K hK => ?_; simp (maxSteps := 4000000) only [go_sem, hw]; refine hK _ ?_; clear hK K) | refine walkL_nil ?_ | refine walkL_ret ?_ | refine walkL_exit ?_ | refine blockA_here ?_ | refine blockA_other rfl ?_ | refine blockA_ret ?_ | refine blockA_normal ?_ | refine thenA_ret ?_ | refine thenA_exit ?_ | refine thenA_normal ?_)
              refine ⟨rfl, (g + 1, A), ?_, ⟨hlt, hnx⟩, by dsimp only; omega⟩
              refine weak_of [] ?_ ?_ rfl rfl <;> simp [lessT, lessM, lessB, AV.less]
              all_goals first | done | rfl | trace_state
      · have he : g = needs.length := by (have : ¬ g < needs.length := by simpa using hb); omega
        subst he
        rw [hres] at hcur
        cases hcur
  | some cf =>
    refine fnG_walk 68 Tryz.call141 Tryz.func141 rfl (by decide) [15] [(0, 0)] (by simp only [List.length_cons, List.length_nil]; decide) (by kernel_rfl) fun J => ?_
    simp (maxSteps := 4000000) only [go_sem, St.startG, Tryz.ntmps141, Tryz.results141, List.map_cons, List.map_nil, List.range_succ,  lardRow]
    repeat (first | refine walkL_seq ?_ | refine walkL_skip ?_ | refine walkL_block ?_ | (refine walkL_region fun K hK => ?_; simp (maxSteps := 4000000) only [go_sem]; refine hK _ ?_; clear hK K) | refine walkL_nil ?_ | refine walkL_ret ?_ | refine walkL_exit ?_ | refine blockA_here ?_ | refine blockA_other rfl ?_ | refine blockA_ret ?_ | refine blockA_normal ?_ | refine thenA_ret ?_ | refine thenA_exit ?_ | refine thenA_normal ?_)
    refine walkL_region fun K hK => ?_
    simp (maxSteps := 4000000) only [go_sem]
    refine ⟨_, .lentS (hdst := rfl) (hf := h184) (hd := rfl) (hr := rowsFlat_int _) (hfr := rfl), ?_⟩
    simp (maxSteps := 4000000) only [go_sem]
    refine hK _ ?_
    clear hK K
    repeat (first | refine walkL_seq ?_ | refine walkL_skip ?_ | refine walkL_block ?_ | (refine walkL_region fun K hK => ?_; simp (maxSteps := 4000000) only [go_sem]; refine hK _ ?_; clear hK K) | refine walkL_nil ?_ | refine walkL_ret ?_ | refine walkL_exit ?_ | refine blockA_here ?_ | refine blockA_other rfl ?_ | refine blockA_ret ?_ | refine blockA_normal ?_ | refine thenA_ret ?_ | refine thenA_exit ?_ | refine thenA_normal ?_)
    refine walkL_loopS (fun (q : Nat × List Int) => [(18, .d (.i (q.1 : Int)))]) (fun q => [(15, some (.arr 3 1 (intRows q.2)))]) (fun q => q.1 ≤ needs.length ∧ takeTo k o needs l q.1 = some q.2) (fun q => needs.length - q.1) (0, l) ?_ ⟨Nat.zero_le _, rfl⟩ ?_
    · simp (maxSteps := 4000000) only [go_sem]
      refine weak_of [] ?_ ?_ rfl rfl <;> simp [lessT, lessM, lessB, AV.less]
      all_goals first | done | rfl | trace_state
    · rintro ⟨g, cur⟩ ⟨hg, hcur⟩
      dsimp only at hg hcur
      obtain ⟨hco, hcl⟩ := hto g cur hcur
      simp (maxSteps := 4000000) only [go_sem]
      repeat (first | refine walkL_seq ?_ | refine walkL_skip ?_ | refine walkL_block ?_ | (refine walkL_region fun K hK => ?_; simp (maxSteps := 4000000) only [go_sem]; refine hK _ ?_; clear hK K) | refine walkL_nil ?_ | refine walkL_ret ?_ | refine walkL_exit ?_ | refine blockA_here ?_ | refine blockA_other rfl ?_ | refine blockA_ret ?_ | refine blockA_normal ?_ | refine thenA_ret ?_ | refine thenA_exit ?_ | refine thenA_normal ?_)
      refine walkL_cond rfl (fun hb => ?_) (fun hb => ?_)
      · have hlt : g < needs.length := by simpa using hb
        have hw : IntKind.i64.wrap ((g : Int) + 1) = ((g + 1 : Nat) : Int) := by rw [wr_small (by omega)]; simp
        have gn := intRows_getI hlt
        have hnx : takeTo k o needs l (g + 1) = if (takeG k o g cur (getI needs (g : Int))).2 > 0 then none else some (takeG k o g cur (getI needs (g : Int))).1 := by rw [takeTo, hcur]
        have hnr : 0 ≤ getI needs (g : Int) ∧ getI needs (g : Int) ≤ 2 ^ 40 := getI_in hn (by decide) _
        obtain ⟨N, hN⟩ : ∃ N, N = getI needs (g : Int) := ⟨_, rfl⟩
        rw [← hN] at gn hnx hnr
        repeat (first | refine walkL_seq ?_ | refine walkL_skip ?_ | refine walkL_block ?_ | (refine walkL_region fun K hK => ?_; simp (maxSteps := 4000000) only [go_sem, gn]; refine hK _ ?_; clear hK K) | refine walkL_nil ?_ | refine walkL_ret ?_ | refine walkL_exit ?_ | refine blockA_here ?_ | refine blockA_other rfl ?_ | refine blockA_ret ?_ | refine blockA_normal ?_ | refine thenA_ret ?_ | refine thenA_exit ?_ | refine thenA_normal ?_)
        refine walkL_loopS (fun (q : Nat × List Int × Int) => [(28, .d (.i (q.1 : Int))), (7, .d (.i q.2.2))]) (fun q => [(15, some (.arr 3 1 (intRows q.2.1)))]) (fun q => q.1 ≤ o.length ∧ (q.2.1, q.2.2) = (o.take q.1).foldl (takeStep k g) (cur, N) ∧ AmtOk q.2.1 ∧ q.2.1.length = l.length ∧ 0 ≤ q.2.2 ∧ q.2.2 ≤ 2 ^ 40) (fun q => o.length - q.1) (0, cur, N) ?_ ⟨Nat.zero_le _, rfl, hco, hcl, hnr.1, hnr.2⟩ ?_
        · simp (maxSteps := 4000000) only [go_sem]
          refine weak_of [] ?_ ?_ rfl rfl <;> simp [lessT, lessM, lessB, AV.less]
          all_goals first | done | rfl | trace_state
        · rintro ⟨j, A, m⟩ ⟨hj, hfold, hAo, hAl, hm0, hm1⟩
          dsimp only at hj hfold hAo hAl hm0 hm1
          simp (maxSteps := 4000000) only [go_sem]
          repeat (first | refine walkL_seq ?_ | refine walkL_skip ?_ | refine walkL_block ?_ | (refine walkL_region fun K hK => ?_; simp (maxSteps := 4000000) only [go_sem]; refine hK _ ?_; clear hK K) | refine walkL_nil ?_ | refine walkL_ret ?_ | refine walkL_exit ?_ | refine blockA_here ?_ | refine blockA_other rfl ?_ | refine blockA_ret ?_ | refine blockA_normal ?_ | refine thenA_ret ?_ | refine thenA_exit ?_ | refine thenA_normal ?_)
          refine walkL_cond rfl (fun hb => ?_) (fun hb => ?_)
          · have hltj : j < o.length := by simpa using hb
            have hwj : IntKind.i64.wrap ((j : Int) + 1) = ((j + 1 : Nat) : Int) := by rw [wr_small (by omega)]; simp
            have hnj : ¬ ((j : Int) < 0) := by omega
            obtain ⟨x, hx⟩ : ∃ x, o[j]? = some x := ⟨_, List.getElem?_eq_getElem hltj⟩
            have gx := natRows_at hltj
            rw [List.getD, hx, Option.getD_some] at gx
            have hxb := ho x (List.mem_of_getElem? hx)
            have gb := bat_at hxb
            rw [Batch.row] at gb
            have hnx2 : ¬ ((x : Int) < 0) := by omega
            have hxA : x < A.length := by omega
            have gA := intRows_getI hxA
            have hgA := hAo.get (x : Int)
            have hst : (o.take (j + 1)).foldl (takeStep k g) (cur, N) = takeStep k g (A, m) x := by rw [foldl_take_succ _ _ _ _ _ hx, ← hfold]
            have hso := takeStep_ok (k := k) (good := g) (i := x) (a := (A, m)) hAo hm0
            by_cases hq : (batAt k x).good = (g : Int)
            · have d : ((batAt k x).good == (g : Int)) = true := by simp [hq]
              have e0 : takeStep k g (A, m) x = (A.set x (getI A (x : Int) - min m (getI A (x : Int))), m - min m (getI A (x : Int))) := by rw [takeStep, if_pos hq]
              rw [e0] at hst hso
              dsimp only at hso
              have e1 : IntKind.i64.wrap (getI A (x : Int) - min m (getI A (x : Int))) = getI A (x : Int) - min m (getI A (x : Int)) := wr_small (by omega)
              have e2 : IntKind.i64.wrap (m - min m (getI A (x : Int))) = m - min m (getI A (x : Int)) := wr_small (by omega)
              have su := intRows_set A x (getI A (x : Int) - min m (getI A (x : Int)))
              obtain ⟨v, hv⟩ : ∃ v, v = getI A (x : Int) := ⟨_, rfl⟩
              rw [← hv] at gA e1 e2 su hst hso hgA
              obtain ⟨t, ht⟩ : ∃ t, t = min m v := ⟨_, rfl⟩
              rw [← ht] at e1 e2 su hst hso
              have ht' : min m v = t := ht.symm
              repeat (first | refine walkL_true rfl ?_ | refine walkL_false rfl ?_ | refine walkL_seq ?_ | refine walkL_skip ?_ | refine walkL_block ?_ | (refine walkL_region fun K hK => ?_; simp (maxSteps := 4000000) only [go_sem, gx, hnj, hltj, gb, hnx2, d]; refine hK _ ?_; clear hK K) | refine walkL_nil ?_ | refine walkL_ret ?_ | refine walkL_exit ?_ | refine blockA_here ?_ | refine blockA_other rfl ?_ | refine blockA_ret ?_ | refine blockA_normal ?_ | refine thenA_ret ?_ | refine thenA_exit ?_ | refine thenA_normal ?_)
              repeat (first | refine walkL_seq ?_ | refine walkL_skip ?_ | refine walkL_block ?_ | (refine walkL_region fun K hK => ?_; simp (maxSteps := 4000000) only [go_sem, gx, hnj, hltj, gb, hnx2, d, gA, hxA, ht', e1, e2, su, hwj]; refine hK _ ?_; clear hK K) | refine walkL_nil ?_ | refine walkL_ret ?_ | refine walkL_exit ?_ | refine blockA_here ?_ | refine blockA_other rfl ?_ | refine blockA_ret ?_ | refine blockA_normal ?_ | refine thenA_ret ?_ | refine thenA_exit ?_ | refine thenA_normal ?_)
              refine ⟨rfl, (j + 1, A.set x (v - t), m - t), ?_, ⟨hltj, hst.symm, hso.1, by rw [hso.2.1]; exact hAl, hso.2.2.1, by dsimp only; omega⟩, by dsimp only; omega⟩
              refine weak_of [] ?_ ?_ rfl rfl <;> simp [lessT, lessM, lessB, AV.less]
              all_goals first | done | rfl | trace_state
            · have d : ((batAt k x).good == (g : Int)) = false := by simpa using hq
              have e0 : takeStep k g (A, m) x = (A, m) := by rw [takeStep, if_neg hq]
              rw [e0] at hst
              repeat (first | refine walkL_true rfl ?_ | refine walkL_false rfl ?_ | refine walkL_seq ?_ | refine walkL_skip ?_ | refine walkL_block ?_ | (refine walkL_region fun K hK => ?_; simp (maxSteps := 4000000) only [go_sem, gx, hnj, hltj, gb, hnx2, d, hwj]; refine hK _ ?_; clear hK K) | refine walkL_nil ?_ | refine walkL_ret ?_ | refine walkL_exit ?_ | refine blockA_here ?_ | refine blockA_other rfl ?_ | refine blockA_ret ?_ | refine blockA_normal ?_ | refine thenA_ret ?_ | refine thenA_exit ?_ | refine thenA_normal ?_)
              refine ⟨rfl, (j + 1, A, m), ?_, ⟨hltj, hst.symm, hAo, hAl, hm0, hm1⟩, by dsimp only; omega⟩
              refine weak_of [] ?_ ?_ rfl rfl <;> simp [lessT, lessM, lessB, AV.less]
              all_goals first | done | rfl | trace_state
          · have he : j = o.length := by (have : ¬ j < o.length := by simpa using hb); omega
            subst he
            rw [List.take_length] at hfold
            have hG : takeG k o g cur N = (A, m) := hfold.symm
            rw [hG] at hnx
            dsimp only at hnx
            repeat (first | refine walkL_seq ?_ | refine walkL_skip ?_ | refine walkL_block ?_ | (refine walkL_region fun K hK => ?_; simp (maxSteps := 4000000) only [go_sem]; refine hK _ ?_; clear hK K) | refine walkL_nil ?_ | refine walkL_ret ?_ | refine walkL_exit ?_ | refine blockA_here ?_ | refine blockA_other rfl ?_ | refine blockA_ret ?_ | refine blockA_normal ?_ | refine thenA_ret ?_ | refine thenA_exit ?_ | refine thenA_normal ?_)
            refine walkL_cond rfl (fun hb => ?_) (fun hb => ?_)
            · have hpos : m > 0 := by simpa using hb
              rw [if_pos hpos] at hnx
              rw [takeTo_none hnx (by omega : g + 1 ≤ needs.length)] at hres
              cases hres
            · have hpos : ¬ m > 0 := by simpa using hb
              rw [if_neg hpos] at hnx
              repeat (first | refine walkL_seq ?_ | refine walkL_skip ?_ | refine walkL_block ?_ | (refine walkL_region fun K hK => ?_; simp (maxSteps := 4000000) only [go_sem, hw]; refine hK _ ?_; clear hK K) | refine walkL_nil ?_ | refine walkL_ret ?_ | refine walkL_exit ?_ | refine blockA_here ?_ | refine blockA_other rfl ?_ | refine blockA_ret ?_ | refine blockA_normal ?_ | refine thenA_ret ?_ | refine thenA_exit ?_ | refine thenA_normal ?_)
              refine ⟨rfl, (g + 1, A), ?_, ⟨hlt, hnx⟩, by dsimp only; omega⟩
              refine weak_of [] ?_ ?_ rfl rfl <;> simp [lessT, lessM, lessB, AV.less]
              all_goals first | done | rfl | trace_state
      · have he : g = needs.length := by (have : ¬ g < needs.length := by simpa using hb); omega
        subst he
        rw [hres] at hcur
        cases hcur
        repeat (first | refine walkL_seq ?_ | refine walkL_skip ?_ | refine walkL_block ?_ | (refine walkL_region fun K hK => ?_; simp (maxSteps := 4000000) only [go_sem]; refine hK _ ?_; clear hK K) | refine walkL_nil ?_ | refine walkL_ret ?_ | refine walkL_exit ?_ | refine blockA_here ?_ | refine blockA_other rfl ?_ | refine blockA_ret ?_ | refine blockA_normal ?_ | refine thenA_ret ?_ | refine thenA_exit ?_ | refine thenA_normal ?_)
        simp (maxSteps := 4000000) only [go_sem, retG, takeBlks, lardRow, Option.isSome_some]
end Go.Ab
namespace Go.Ab
open Go.RowKit Go.Proofs
set_option maxHeartbeats 16000000
set_option maxRecDepth 20000
attribute [local irreducible] WalkL Walk
theorem rowOk_at {q : Int → Diners → Bool} : ∀ {l : List Int} {d : List Diners}, rowOk q l d = true → ∀ {g : Nat} {n : Int}, l[g]? = some n → ∃ x, d[g]? = some x ∧ q n x = true
  | [], [], _, g, n, h => by simp at h
  | m :: l, x :: d, hr, g, n, h => by
    rw [rowOk, Bool.and_eq_true] at hr
    cases g with
    | zero => simp at h; subst h; exact ⟨x, rfl, hr.1⟩
    | succ g => simpa using rowOk_at hr.2 (by simpa using h)
  | [], _ :: _, h, _, _, _ => by cases h
  | _ :: _, [], h, _, _, _ => by cases h
theorem shaped_at {q : Int → Diners → Bool} : ∀ {l : List (List Int)} {d : List (List Diners)}, shapedB q l d = true → ∀ {i : Nat} {r : List Int}, l[i]? = some r → ∃ x, d[i]? = some x ∧ rowOk q r x = true
  | [], [], _, i, r, h => by simp at h
  | m :: l, x :: d, hr, i, r, h => by
    rw [shapedB, Bool.and_eq_true] at hr
    cases i with
    | zero => simp at h; subst h; exact ⟨x, rfl, hr.1⟩
    | succ i => simpa using shaped_at hr.2 (by simpa using h)
  | [], _ :: _, h, _, _, _ => by cases h
  | _ :: _, [], h, _, _, _ => by cases h
structure CntOk (k : Kitchen) (cnt : Nat → Nat → Int) : Prop where
  rng : ∀ d g, d < k.days.length → g < (k.days.getD d []).length → 0 ≤ cnt d g ∧ cnt d g ≤ 100
theorem day_ok {k : Kitchen} (hg : KitGood k) {M : List (List Int)} (hM : shapedB (menuB k) M k.days = true) {cnt : Nat → Nat → Int} (hc : CntOk k cnt) {d : Nat} {r : List Int} (hr : M[d]? = some r) :
    d < k.days.length ∧ r.length = (k.days.getD d []).length ∧ DayOk k r (cnt d) := by
  obtain ⟨x, hx, ho⟩ := shaped_at hM hr
  have hd := (List.getElem?_eq_some_iff.1 hx).1
  have e : k.days.getD d [] = x := by rw [List.getD, hx]; rfl
  have hl := rowOk_len ho
  have h3 := (hg.groups x (List.mem_of_getElem? hx)).1
  refine ⟨hd, by rw [e, hl], ⟨by omega, fun g hgl => ?_, fun g hgl => hc.rng d g hd (by rw [e]; omega)⟩⟩
  obtain ⟨n, hn⟩ : ∃ n, r[g]? = some n := ⟨_, List.getElem?_eq_getElem hgl⟩
  obtain ⟨y, _, hq⟩ := rowOk_at ho hn
  rw [menuB, Bool.and_eq_true] at hq
  have hw := within_iff.1 hq.1
  exact ⟨n.toNat, by rw [hn, Int.toNat_of_nonneg hw.1], by omega⟩
theorem hi_ok {k : Kitchen} (hg : KitGood k) : CntOk k fun d g => (dinAt k d g).count.hi := ⟨fun d g hd hgl => by
  obtain ⟨x, hx⟩ : ∃ x, k.days[d]? = some x := ⟨_, List.getElem?_eq_getElem hd⟩
  have e : k.days.getD d [] = x := by rw [List.getD, hx]; rfl
  rw [e] at hgl
  obtain ⟨y, hy⟩ : ∃ y, x[g]? = some y := ⟨_, List.getElem?_eq_getElem hgl⟩
  have e2 : dinAt k d g = y := by rw [dinAt, e, List.getD, hy]; rfl
  have := ((hg.groups x (List.mem_of_getElem? hx)).2 y (List.mem_of_getElem? hy)).2
  rw [e2]
  omega⟩
theorem lo_ok {k : Kitchen} (hg : KitGood k) : CntOk k fun d g => (dinAt k d g).count.lo := ⟨fun d g hd hgl => by
  obtain ⟨x, hx⟩ : ∃ x, k.days[d]? = some x := ⟨_, List.getElem?_eq_getElem hd⟩
  have e : k.days.getD d [] = x := by rw [List.getD, hx]; rfl
  rw [e] at hgl
  obtain ⟨y, hy⟩ : ∃ y, x[g]? = some y := ⟨_, List.getElem?_eq_getElem hgl⟩
  have e2 : dinAt k d g = y := by rw [dinAt, e, List.getD, hy]; rfl
  have := ((hg.groups x (List.mem_of_getElem? hx)).2 y (List.mem_of_getElem? hy)).2
  rw [e2]
  omega⟩
def clrD (k : Kitchen) (d : Nat) (a : List Int × Int) : List Int × Int := clrTo k (d : Int) a.1 a.2 k.batches.length
def needD (k : Kitchen) (M : List (List Int)) (cnt : Nat → Nat → Int) (d : Nat) : List Int := needL k (M.getD d []) (cnt d)
def runSt (k : Kitchen) (M : List (List Int)) (cnt : Nat → Nat → Int) : Nat → Option (List Int × Int)
  | 0 => some (amtK k, 0)
  | d + 1 => match runSt k M cnt d with
    | none => none
    | some a => (takeTo k (ordK k) (needD k M cnt d) (clrD k d a).1 k.allerg.length).map fun l => (l, (clrD k d a).2)
def lastD (k : Kitchen) (M : List (List Int)) (cnt : Nat → Nat → Int) : Nat → Nat
  | 0 => 0
  | d + 1 => if (runSt k M cnt (d + 1)).isSome then d + 1 else lastD k M cnt d
theorem runSt_none {k : Kitchen} {M : List (List Int)} {cnt : Nat → Nat → Int} {d : Nat} (h : runSt k M cnt d = none) : ∀ {m : Nat}, d ≤ m → runSt k M cnt m = none := by
  intro m hm
  induction hm with
  | refl => exact h
  | step _ ih => rw [runSt, ih]
theorem lastD_all {k : Kitchen} {M : List (List Int)} {cnt : Nat → Nat → Int} {d : Nat} (h : (runSt k M cnt d).isSome = true) : lastD k M cnt d = d := by
  cases d with
  | zero => rfl
  | succ d => rw [lastD, if_pos h]
theorem lastD_stop {k : Kitchen} {M : List (List Int)} {cnt : Nat → Nat → Int} {d : Nat} (h : (runSt k M cnt d).isSome = true) (hn : runSt k M cnt (d + 1) = none) : ∀ {m : Nat}, d ≤ m → lastD k M cnt m = d := by
  intro m hm
  induction hm with
  | refl => exact lastD_all h
  | @step m hm ih =>
    rw [lastD, runSt_none hn (Nat.succ_le_succ hm)]
    exact ih
theorem needL_len (k : Kitchen) (ds : List Int) (cnt : Nat → Int) : (needL k ds cnt).length = k.allerg.length := by simp [needL]
theorem needL_ok {k : Kitchen} (hg : KitGood k) {ds : List Int} {cnt : Nat → Int} (hd : DayOk k ds cnt) : ∀ x ∈ needL k ds cnt, 0 ≤ x ∧ x ≤ 2 ^ 40 := fun x hx => by
  obtain ⟨g, _, rfl⟩ := List.mem_map.1 hx
  have := need_range hg hd g ds.length (Nat.le_refl _)
  have := hd.len
  omega
theorem amtK_ok {k : Kitchen} (hg : KitGood k) : AmtOk (amtK k) := fun x hx => by
  obtain ⟨b, hb, rfl⟩ := List.mem_map.1 hx
  exact (hg.batch b hb).2.1
theorem runSt_ok {k : Kitchen} (hg : KitGood k) {M : List (List Int)} (hM : shapedB (menuB k) M k.days = true) {cnt : Nat → Nat → Int} (hc : CntOk k cnt) : ∀ (d : Nat) a, d ≤ M.length → runSt k M cnt d = some a → AmtOk a.1 ∧ a.1.length = k.batches.length ∧ 0 ≤ a.2 ∧ a.2 ≤ 10000000 * d
  | 0, a, _, h => by
    cases h
    exact ⟨amtK_ok hg, by simp [amtK], Int.le_refl 0, by simp⟩
  | d + 1, a, hd, h => by
    rw [runSt] at h
    cases hx : runSt k M cnt d with
    | none => rw [hx] at h; cases h
    | some b =>
      rw [hx] at h
      dsimp only at h
      obtain ⟨h1, h2, h3, h4⟩ := runSt_ok hg hM hc d b (by omega) hx
      obtain ⟨l, hl, rfl⟩ := Option.map_eq_some_iff.1 h
      obtain ⟨r, hr⟩ : ∃ r, M[d]? = some r := ⟨_, List.getElem?_eq_getElem (by omega)⟩
      obtain ⟨_, _, hdo⟩ := day_ok hg hM hc hr
      have hnd : needD k M cnt d = needL k r (cnt d) := by rw [needD, List.getD, hr]; rfl
      obtain ⟨c1, c2, c3⟩ := clrTo_ok (k := k) (day := (d : Int)) (w := b.2) h1 k.batches.length
      obtain ⟨t1, t2⟩ := takeTo_ok (k := k) (o := ordK k) (needs := needD k M cnt d) c1 (fun x hx => by rw [hnd] at hx; exact (needL_ok hg hdo x hx).1) k.allerg.length l hl
      have hb := hg.batches
      refine ⟨t1, by rw [t2, clrTo_len, h2], ?_, ?_⟩
      · change 0 ≤ (clrTo k (d : Int) b.1 b.2 k.batches.length).2
        omega
      · change (clrTo k (d : Int) b.1 b.2 k.batches.length).2 ≤ _
        push_cast
        omega
theorem zf142 (k : Kitchen) (f : FuncId) (d g : Nat) (c : Int) (h : Fn Tryz.prog f [.agg k.cells, .i (d : Int), .i (g : Int)] (.i c)) : Fn Tryz.prog 142 [.i (g : Int), .ptr [.bnd f [.agg k.cells]] 0, .ptr [.i (d : Int)] 0] (.i c) := by
  rw [Kitchen.cells] at h ⊢
  refine fn_walk 9 Tryz.call142 Tryz.func142 rfl (by decide) fun J => ?_
  simp (maxSteps := 4000000) only [go_sem, St.start, Tryz.ntmps142, Tryz.results142]
  repeat (first | refine walkL_seq ?_ | refine walkL_skip ?_ | refine walkL_block ?_ | (refine walkL_region fun K hK => ?_; simp (maxSteps := 4000000) only [go_sem]; (repeat (first | (refine ⟨_, .lent (hf := h) (hd := rfl) (hr := rfl), ?_⟩; simp (maxSteps := 4000000) only [go_sem]) | (refine ⟨_, .given (hf := h) (hd := rfl) (ha := rfl), ?_⟩; simp (maxSteps := 4000000) only [go_sem]))); refine hK _ ?_; clear hK K) | refine walkL_nil ?_ | refine walkL_ret ?_ | refine walkL_exit ?_ | refine blockA_here ?_ | refine blockA_other rfl ?_ | refine blockA_ret ?_ | refine blockA_normal ?_ | refine thenA_ret ?_ | refine thenA_exit ?_ | refine thenA_normal ?_)
  simp (maxSteps := 4000000) only [go_sem]
end Go.Ab
/- A fresh slice is a deep value too. -/
namespace Go.Ab
open Go.RowKit
theorem FnS.deep {P : Program} {f : FuncId} {args : List DV} {e z : Nat} {rows : List (List DV)} (h : FnS P f args e z rows) : Fn P f args (.sl rows) :=
  ⟨h.1, fun w own vs hb hh hd => (h.2 w own vs hb hh hd).mono fun en w' hq => by
    obtain ⟨v, μ, he, hv, hm, hbl⟩ := hq
    exact ⟨v, he, reify_sound hm own (fun b hb => .inl hb) (fun _ => True) (fun n b z l c _ hμ => (hm.base n b z l c hμ).2.2) 1 (.own 0) v _ hv rfl (fun _ _ => trivial) (.inl fun _ _ _ _ _ _ => trivial), hbl⟩⟩
theorem FnG.boxNil {P : Program} {f : FuncId} {m0 : List Blk} {pins : List Nat} {args : List AV} {r : AV} {row : List AV} {rest : List Blk} (h : FnG P f m0 pins args r (.box row :: rest)) : FnG P f m0 pins args r (.box [] :: rest) :=
  ⟨h.enters, fun base w own μ0 vs h1 h2 h3 h4 h5 h6 => (h.calls base w own μ0 vs h1 h2 h3 h4 h5 h6).mono fun en w' hq => by
    obtain ⟨v, μ1, he, hv, hm, hk, hp⟩ := hq
    refine ⟨v, μ1, he, hv, ⟨fun n b hb => ?_, fun n hn => ?_, hm.inj, hm.base⟩, hk, hp⟩
    · cases n with
      | zero =>
        have e : Blk.box [] = b := by simpa using hb
        subst e
        obtain ⟨b, cs, ty, g1, g2, _, _⟩ := hm.blk 0 (.box row) rfl
        exact ⟨b, cs, ty, g1, g2, Nat.zero_le _, fun j x v hx => by cases hx⟩
      | succ n => exact hm.blk (n + 1) b (by simpa using hb)
    · obtain ⟨b, hb⟩ := hm.dom n hn
      cases n with
      | zero => exact ⟨.box [], rfl⟩
      | succ n => exact ⟨b, by simpa using hb⟩⟩
def closedM (m : Nat → Bool) : List Oper → Nat → Prop
  | [], _ => True
  | o :: os, i => (m i = false → depsM m o.after.toList) ∧ closedM m os (i + 1)
theorem closedM_of {m : Nat → Bool} : ∀ (os : List Oper) (i : Nat), (∀ r o, os[r]? = some o → m (i + r) = false → depsM m o.after.toList) → closedM m os i
  | [], _, _ => trivial
  | o :: os, i, h => ⟨fun hm => h 0 o rfl hm, closedM_of os (i + 1) fun r o ho hm => h (r + 1) o (by simpa using ho) (by rw [show i + (r + 1) = i + 1 + r by omega]; exact hm)⟩
def stepsC (P : Program) (all : List Oper) (G : (Nat → Bool) → St) : List Oper → Nat → Prop
  | [], _ => True
  | o :: os, i => (∀ m : Nat → Bool, m i = true → depsM m o.after.toList → closedM m all 0 → dstOk o = true ∧ o.guard = none ∧ stepK P o (G m) (fun s => s = G (offM m i))) ∧ stepsC P all G os (i + 1)
def StepC (P : Program) (all : List Oper) (G : (Nat → Bool) → St) (o : Oper) (i : Nat) : Prop := ∀ m : Nat → Bool, m i = true → depsM m o.after.toList → closedM m all 0 → dstOk o = true ∧ o.guard = none ∧ stepK P o (G m) (fun s => s = G (offM m i))
theorem stepsC_get {P : Program} {all : List Oper} {G : (Nat → Bool) → St} : ∀ (os : List Oper) (i r : Nat) (o : Oper), stepsC P all G os i → os[r]? = some o → StepC P all G o (i + r)
  | [], _, _, _, _, ho => by simp at ho
  | p :: os, i, r, o, h, ho => by
    cases r with
    | zero =>
      have e : p = o := by simpa using ho
      rw [← e]
      exact h.1
    | succ r =>
      have h2 := stepsC_get os (i + 1) r o h.2 (by simpa using ho)
      have e : i + 1 + r = i + (r + 1) := by omega
      rw [e] at h2
      exact h2
structure LeftD (ops : Array Oper) (G : (Nat → Bool) → St) (rs : List Nat) (s s' : St) : Prop where
  left : LeftC ops G rs s s'
  done : ∀ (j : Nat) (o : Oper), ops[j]? = some o → j ∉ rs → ∀ e ∈ o.after, Region.binds .any e = true → e.on ∉ rs
section
variable {P : Program} {rd : Option Nat} {n : Nat} {J : Env} {ops : Array Oper} {cs : List Code} {k : Option Nat} {st : St} {Q : Exit → Option Nat → St → Prop}
theorem walk_drawnC {id : Nat} (hfol : P.follows .mixedOrders = true) (hback : backB ops = true) (G : (Nat → Bool) → St) (h0 : G (fun i => decide (i < ops.size)) = st) (hs : stepsC P ops.toList G ops.toList 0) (h : Q .normal k (G fun _ => false)) :
    Walk P rd n J (.region id ops true) k st Q := fun B base out μ tmps w ds _ hst hJ hM => by
  refine region_drawG (rs := List.range ops.size) (fun i => i) (fun a b => ¬ Anc ops a b) (LeftD ops G) (fun s s' hc => ?_) (fun r rs s s' hc => ?_) (fun r B s s' A hA hc => ?_) hfol hback (by simp) ?_ ?_ hst fun tmps' μ' w' h5 hk hS => .step hJ h5 hk hS hM h
  · rw [hc.left.now, hc.left.fin]
    rfl
  · obtain ⟨⟨h1, h2, h3, h4, h5⟩, h6⟩ := hc
    have hr := h5 r (by simp)
    obtain ⟨o, ho⟩ : ∃ o, ops[r]? = some o := ⟨ops[r], by simp [hr]⟩
    rw [List.pairwise_cons] at h4
    rw [List.nodup_cons] at h3
    have hni : ∀ e ∈ o.after, Region.binds .any e = true → e.on ∉ r :: rs := by
      intro e he hb hc
      have hlt := back_spec hback ho he hb
      have hanc : Anc ops e.on r := .edge ho he hb
      rcases List.mem_cons.1 hc with hc | hc
      · omega
      · exact h4.1 _ hc hanc
    have hg := stepsC_get ops.toList 0 r o hs (by simpa using ho) (fun i => (r :: rs).contains i) (by simp) (depsM_of fun e he hb => by
      simpa using hni e (by simpa using he) hb) (closedM_of _ _ fun j q hq hm => depsM_of fun e he hb => by
        have hj : j ∉ r :: rs := by simpa using hm
        simpa using h6 j q (by simpa using hq) hj e (by simpa using he) hb)
    obtain ⟨hd, hgu, hk⟩ := hg
    obtain ⟨s1, hs1, he⟩ := stepK_spec hk
    refine ⟨o, s1, ho, hd, by unfold StepG; rw [hgu, h1]; exact hs1, ?_⟩
    refine ⟨⟨?_, h2, h3.2, h4.2, fun i hi => h5 i (by simp [hi])⟩, fun j q hq hj e he hb hc => ?_⟩
    · rw [he]
      congr 1
      funext j
      unfold offM
      rw [Nat.zero_add]
      by_cases hj : j = r
      · subst hj
        rw [if_pos rfl]
        have : ¬ rs.contains j = true := by simpa using h3.1
        simpa using this
      · rw [if_neg hj]
        simp [hj]
    · by_cases hjr : j = r
      · subst hjr
        rw [hq] at ho
        cases ho
        exact hni e he hb (by simp [hc])
      · exact h6 j q hq (by simp [hjr, hj]) e he hb (by simp [hc])
  · obtain ⟨⟨h1, h2, h3, h4, h5⟩, h6⟩ := hc
    have hsub : (A ++ B).Sublist (A ++ r :: B) := List.Sublist.append_left (List.sublist_cons_self r B) A
    have hmem : ∀ i, i ∈ r :: (A ++ B) ↔ i ∈ A ++ r :: B := by
      intro i
      simp
      constructor
      · rintro (h | h | h) <;> simp [h]
      · rintro (h | h | h) <;> simp [h]
    refine ⟨⟨?_, h2, ?_, ?_, fun i hi => h5 i ((hmem i).1 hi)⟩, fun j q hq hj e he hb hc => h6 j q hq (fun h => hj ((hmem j).2 h)) e he hb ((hmem _).1 hc)⟩
    · rw [h1]
      congr 1
      funext j
      rw [Bool.eq_iff_iff]
      simp
      constructor
      · rintro (h | h | h) <;> simp [h]
      · rintro (h | h | h) <;> simp [h]
    · rw [List.nodup_cons]
      refine ⟨?_, h3.sublist hsub⟩
      rw [List.nodup_append] at h3
      intro hc
      rcases List.mem_append.1 hc with hc | hc
      · exact h3.2.2 r hc r (by simp) rfl
      · exact (List.nodup_cons.1 h3.2.1).1 hc
    · rw [List.pairwise_cons]
      refine ⟨fun b hb => ?_, h4.sublist hsub⟩
      rcases List.mem_append.1 hb with hb | hb
      · exact hA b hb
      · rw [List.pairwise_append] at h4
        exact (List.pairwise_cons.1 h4.2.1).1 b hb
  · have hp : (List.range ops.size).Pairwise (· < ·) := List.pairwise_lt_range
    exact hp.imp fun {a b} _ => Classical.em _
  · refine ⟨⟨?_, rfl, List.nodup_range, ?_, fun i hi => List.mem_range.1 hi⟩, fun j o ho hj => ?_⟩
    · rw [← h0]
      congr 1
      funext i
      rw [Bool.eq_iff_iff]
      simp
    · exact List.pairwise_lt_range.imp fun {a b} hab hc => by
        have := anc_lt hback hc
        omega
    · have := (Array.getElem?_eq_some_iff.1 ho).1
      exact absurd (List.mem_range.2 this) hj
theorem walkL_drawnC {id : Nat} (hfol : P.follows .mixedOrders = true) (hback : backB ops = true) (G : (Nat → Bool) → St) (h0 : G (fun i => decide (i < ops.size)) = st) (hs : stepsC P ops.toList G ops.toList 0)
    (h : WalkL P rd n J cs k (G fun _ => false) Q) : WalkL P rd n J (.region id ops true :: cs) k st Q :=
  walk_drawnC hfol hback G h0 hs h
end
theorem walkL_lose {P : Program} {rd : Option Nat} {n : Nat} {J : Env} {c : Code} {cs : List Code} {k : Option Nat} {st : St} {Q : Exit → Option Nat → St → Prop} (ds : List Nat) (hw : Weak st (st.head ds [] [])) (h : WalkL P rd n J (c :: cs) k (st.head ds [] []) Q) :
    WalkL P rd n J (c :: cs) k st Q := walkL_weak hw h
end Go.Ab
namespace Go.Ab
open Go.RowKit Go.Proofs
set_option maxHeartbeats 16000000
set_option maxRecDepth 20000
attribute [local irreducible] WalkL Walk
def endSt (k : Kitchen) (M : List (List Int)) (cnt : Nat → Nat → Int) : List Int × Int :=
  let a := (runSt k M cnt (lastD k M cnt M.length)).getD (amtK k, 0)
  if lastD k M cnt M.length < M.length then clrD k (lastD k M cnt M.length) a else a
def leftAt (i : Nat) (a : List Int) : AV := if i = 0 then .own 1 else .d (.sl (intRows a))
def left0 (k : Kitchen) : List Int := (clrD k 0 (amtK k, 0)).1
def runBlks (k : Kitchen) (M : List (List Int)) (cnt : Nat → Nat → Int) : List Blk :=
  [.box (lardRow k (leftAt (lastD k M cnt M.length) (endSt k M cnt).1) (.own 2) (endSt k M cnt).2), .arr 3 1 (intRows (left0 k)), .arr 3 1 (natRows (ordK k))]
def nmL (p : Nat) : Nat := if p = 0 then 34 else p
theorem leftAt_own {i : Nat} (h : i = 0) (a : List Int) : leftAt i a = .own 1 := by rw [leftAt, if_pos h]
theorem leftAt_deep {i : Nat} (h : i ≠ 0) (a : List Int) : leftAt i a = .d (.sl (intRows a)) := by rw [leftAt, if_neg h]
theorem zf94 (k : Kitchen) (hg : KitGood k) (M : List (List Int)) (hM : shapedB (menuB k) M k.days = true) (f : FuncId) (cnt : Nat → Nat → Int) (hc : CntOk k cnt)
    (hf : ∀ d g, d < k.days.length → g < (k.days.getD d []).length → Fn Tryz.prog f [.agg k.cells, .i (d : Int), .i (g : Int)] (.i (cnt d g))) :
    FnG Tryz.prog 94 [.box (lardRow k (.own 1) (.own 2) 0), .arr 3 1 (intRows (amtK k)), .arr 3 1 (natRows (ordK k))] [0] [.box 0 0, .d (.sl (listRows M)), .d (.bnd f [.agg k.cells])] (.d (.i (lastD k M cnt M.length : Nat))) (runBlks k M cnt) := by
  have hbl := hg.batches
  have hdl := hg.days
  have hMl := shaped_len hM
  have hgo := hg.goods
  obtain ⟨A0, hA0⟩ : ∃ a, a = left0 k := ⟨_, rfl⟩
  refine fnG_walk 33 Tryz.call94 Tryz.func94 rfl (by decide) [] [(0, 0)] (by simp only [List.length_cons, List.length_nil]; decide) (by kernel_rfl) fun J => ?_
  simp (maxSteps := 4000000) only [go_sem, St.startG, Tryz.ntmps94, Tryz.results94, List.map_cons, List.map_nil, List.range_succ,  lardRow]
  repeat (first | refine walkL_seq ?_ | refine walkL_skip ?_ | refine walkL_block ?_ | refine walkL_nil ?_ | refine blockA_normal ?_ | refine thenA_normal ?_)
  refine walkL_region fun K hK => ?_
  simp (maxSteps := 4000000) only [go_sem]
  refine hK _ ?_
  clear hK K
  refine walkL_release [5] ?_
  simp (maxSteps := 4000000) only [go_sem]
  repeat (first | refine walkL_seq ?_ | refine walkL_skip ?_ | refine walkL_block ?_ | (refine walkL_region fun K hK => ?_; simp (maxSteps := 4000000) only [go_sem, listRows_len]; refine hK _ ?_; clear hK K) | refine walkL_nil ?_ | refine walkL_ret ?_ | refine walkL_exit ?_ | refine blockA_here ?_ | refine blockA_other rfl ?_ | refine blockA_ret ?_ | refine blockA_normal ?_ | refine thenA_ret ?_ | refine thenA_exit ?_ | refine thenA_normal ?_)
  refine walkL_loopS (fun (q : Nat × Nat × List Int × Int) => [(11, .d (.i (q.1 : Int)))])
    (fun q => [(33, some (.box (lardRow k (.own (nmL q.2.1)) (.own 35) q.2.2.2))), (34, some (.arr 3 1 (intRows (if q.2.1 = 0 then q.2.2.1 else A0)))), (1, if q.2.1 = 1 then some (.arr 3 1 (intRows q.2.2.1)) else none), (2, if q.2.1 = 2 then some (.arr 3 1 (intRows q.2.2.1)) else none)])
    (fun q => q.1 ≤ M.length ∧ runSt k M cnt q.1 = some q.2.2 ∧ (q.2.1 = 0 → q.1 = 0 ∧ q.2.2.1 = amtK k) ∧ (q.1 = 0 → q.2.1 = 0) ∧ q.2.1 < 3) (fun q => M.length - q.1) (0, 0, amtK k, 0) ?_ ⟨Nat.zero_le _, rfl, fun _ => ⟨rfl, rfl⟩, fun _ => rfl, Nat.zero_lt_succ _⟩ ?_
  · simp (maxSteps := 4000000) only [go_sem, nmL, lardRow]
    refine weak_of [] ?_ ?_ rfl rfl <;> simp [lessT, lessM, lessB, AV.less]
    all_goals first | done | rfl | exact ⟨rfl, rfl⟩ | trace_state
  · rintro ⟨d, p, l, w⟩ ⟨hd, hrun, hp0, hd0, hp3⟩
    dsimp only at hd hrun hp0 hd0 hp3
    obtain ⟨hla, hll, hw0, hw1⟩ := runSt_ok hg hM hc d (l, w) hd hrun
    dsimp only at hla hll hw0 hw1
    have hw2 : w ≤ 2 ^ 40 := by omega
    have hsome : (runSt k M cnt d).isSome = true := by rw [hrun]; rfl
    have hlast : d = M.length → lastD k M cnt M.length = d ∧ endSt k M cnt = (l, w) := fun he => by
      have e : lastD k M cnt M.length = d := by rw [← he]; exact lastD_all hsome
      refine ⟨e, ?_⟩
      rw [endSt, e, hrun, if_neg (by omega)]
      rfl
    have hstop : d < M.length → runSt k M cnt (d + 1) = none → lastD k M cnt M.length = d ∧ endSt k M cnt = clrD k d (l, w) := fun hlt hn => by
      have e : lastD k M cnt M.length = d := lastD_stop hsome hn (by omega)
      refine ⟨e, ?_⟩
      rw [endSt, e, hrun, if_pos hlt]
      rfl
    have hstep : d < M.length → runSt k M cnt (d + 1) = (takeTo k (ordK k) (needD k M cnt d) (clrD k d (l, w)).1 k.allerg.length).map fun c => (c, (clrD k d (l, w)).2) := fun _ => by rw [runSt, hrun]
    rcases (by omega : p = 0 ∨ p = 1 ∨ p = 2) with hp | hp | hp
    · -- phase 0
      subst hp
      obtain ⟨hz0, hl1⟩ := hp0 rfl
      have hLA := leftAt_own hz0
      simp (maxSteps := 4000000) only [go_sem, nmL, lardRow]
      repeat (first | refine walkL_seq ?_ | refine walkL_skip ?_ | refine walkL_block ?_ | (refine walkL_region fun K hK => ?_; simp (maxSteps := 4000000) only [go_sem]; refine hK _ ?_; clear hK K) | refine walkL_nil ?_ | refine walkL_ret ?_ | refine walkL_exit ?_ | refine blockA_here ?_ | refine blockA_other rfl ?_ | refine blockA_ret ?_ | refine blockA_normal ?_ | refine thenA_ret ?_ | refine thenA_exit ?_ | refine thenA_normal ?_)
      refine walkL_cond rfl (fun hb => ?_) (fun hb => ?_)
      · have hlt : d < M.length := by simpa using hb
        have hw : IntKind.i64.wrap ((d : Int) + 1) = ((d + 1 : Nat) : Int) := by rw [wr_small (by omega)]; simp
        obtain ⟨r, hr⟩ : ∃ r, M[d]? = some r := ⟨_, List.getElem?_eq_getElem hlt⟩
        obtain ⟨hdd, hrl, hday⟩ := day_ok hg hM hc hr
        have g1 := listRows_at hr
        have hni : ¬ ((d : Int) < 0) := by omega
        have hnd : needD k M cnt d = needL k r (cnt d) := by rw [needD, List.getD, hr]; rfl
        have hst := hstep hlt
        have hsp := hstop hlt
        rw [hnd] at hst
        have h86 := zf86 k hbl (d : Int) l (ordK k) w hll hla ⟨hw0, hw2⟩
        obtain ⟨c1, c2, c3⟩ := clrTo_ok (k := k) (day := (d : Int)) (w := w) hla k.batches.length
        have c4 := clrTo_len k (d : Int) l w k.batches.length
        change runSt k M cnt (d + 1) = (takeTo k (ordK k) (needL k r (cnt d)) (clrTo k (d : Int) l w k.batches.length).1 k.allerg.length).map fun c => (c, (clrTo k (d : Int) l w k.batches.length).2) at hst
        change runSt k M cnt (d + 1) = none → lastD k M cnt M.length = d ∧ endSt k M cnt = clrTo k (d : Int) l w k.batches.length at hsp
        obtain ⟨⟨C, v⟩, hC⟩ : ∃ a, a = clrTo k (d : Int) l w k.batches.length := ⟨_, rfl⟩
        rw [← hC] at h86 c1 c2 c3 c4 hst hsp
        dsimp only at c1 c2 c3 c4 hst
        have hAC : C = A0 := by
          have h0 : (l, w) = (amtK k, 0) := by rw [hz0] at hrun; exact (Option.some.inj hrun).symm
          rw [hA0, left0, clrD, ← h0]
          rw [hz0] at hC
          exact congrArg Prod.fst hC
        subst hAC
        have h87 := (zf87 k hg r (cnt d) 142 [.ptr [.bnd f [.agg k.cells]] 0, .ptr [.i (d : Int)] 0] hday (fun j hj => zf142 k f d j (cnt d j) (hf d j hdd (by omega)))).deep
        have h141 := zf141 k (needL k r (cnt d)) C (ordK k) v (by omega) hbl c1 (needL_ok hg hday) (by rw [needL_len]; exact hgo.2) (fun x hx => ordK_mem hx) (by rw [ordK_len]; exact hbl)
        rw [needL_len] at h141
        simp only [lardRow] at h86
        rw [Kitchen.cells] at h87
        obtain ⟨N, hN⟩ : ∃ N, N = needL k r (cnt d) := ⟨_, rfl⟩
        rw [← hN] at h87 h141 hst
        repeat (first | refine walkL_seq ?_ | refine walkL_skip ?_ | refine walkL_block ?_ | refine walkL_nil ?_ | refine blockA_normal ?_ | refine thenA_normal ?_)
        refine walkL_region fun K hK => ?_
        simp (maxSteps := 4000000) only [go_sem, g1, hni]
        refine hK _ ?_
        clear hK K
        refine walkL_release [7] ?_
        simp (maxSteps := 4000000) only [go_sem]
        repeat (first | refine walkL_seq ?_ | refine walkL_skip ?_ | refine walkL_block ?_ | refine walkL_nil ?_ | refine blockA_normal ?_ | refine thenA_normal ?_)
        refine walkL_region fun K hK => ?_
        simp (maxSteps := 4000000) only [go_sem]
        refine ⟨_, .own (ns := [33, 34, 35]) (news := []) (bads := [34, 35]) (rd := []) (hf := h86) (hnd := by decide) (hl0 := rfl) (hl1 := rfl) (hm := by repeat (first | exact trivial | refine And.intro ?_ ?_ | rfl)) (hnew := rfl) (hla := rfl) (ha := argG_all (by repeat (first | exact trivial | refine And.intro ?_ ?_ | exact argG_ren rfl | exact argG_deep rfl rfl))) (hrd := rfl) (hsh := shutG_nil _) (hb := rfl) (hfl := .inl rfl), ?_⟩
        simp (maxSteps := 4000000) only [go_sem, List.map_cons, List.map_nil]
        refine hK _ ?_
        clear hK K
        cases htk : takeTo k (ordK k) N C k.allerg.length with
        | none =>
          rw [htk] at h141 hst
          obtain ⟨hD, hE⟩ := hsp hst
          simp only [takeBlks, lardRow, Option.isSome_none] at h141
          repeat (first | refine walkL_seq ?_ | refine walkL_skip ?_ | refine walkL_block ?_ | refine walkL_nil ?_ | refine blockA_normal ?_ | refine thenA_normal ?_)
          refine walkL_region fun K hK => ?_
          simp (maxSteps := 4000000) only [go_sem]
          refine ⟨_, .given (hf := h87) (hd := rfl) (ha := rfl), ?_⟩
          simp (maxSteps := 4000000) only [go_sem]
          refine ⟨_, .own (ns := [33, 34, 35]) (news := []) (bads := [34, 35]) (rd := []) (hf := h141) (hnd := by decide) (hl0 := rfl) (hl1 := rfl) (hm := by repeat (first | exact trivial | refine And.intro ?_ ?_ | rfl)) (hnew := rfl) (hla := rfl) (ha := argG_all (by repeat (first | exact trivial | refine And.intro ?_ ?_ | exact argG_ren rfl | exact argG_deep rfl rfl))) (hrd := rfl) (hsh := shutG_nil _) (hb := rfl) (hfl := .inl rfl), ?_⟩
          simp (maxSteps := 4000000) only [go_sem, List.map_cons, List.map_nil]
          refine hK _ ?_
          clear hK K
          repeat (first | refine walkL_seq ?_ | refine walkL_skip ?_ | refine walkL_block ?_ | (refine walkL_region fun K hK => ?_; simp (maxSteps := 4000000) only [go_sem]; refine hK _ ?_; clear hK K) | refine walkL_nil ?_ | refine walkL_ret ?_ | refine walkL_exit ?_ | refine blockA_here ?_ | refine blockA_other rfl ?_ | refine blockA_ret ?_ | refine blockA_normal ?_ | refine thenA_ret ?_ | refine thenA_exit ?_ | refine thenA_normal ?_)
          repeat (first | refine walkL_true rfl ?_ | refine walkL_false rfl ?_ | refine walkL_seq ?_ | refine walkL_skip ?_ | refine walkL_block ?_ | (refine walkL_region fun K hK => ?_; simp (maxSteps := 4000000) only [go_sem]; refine hK _ ?_; clear hK K) | refine walkL_nil ?_ | refine walkL_ret ?_ | refine walkL_exit ?_ | refine blockA_here ?_ | refine blockA_other rfl ?_ | refine blockA_ret ?_ | refine blockA_normal ?_ | refine thenA_ret ?_ | refine thenA_exit ?_ | refine thenA_normal ?_)
          simp (maxSteps := 4000000) only [go_sem, retG, runBlks, lardRow, hD, hE, hLA, ← hA0]
        | some c =>
          rw [htk] at h141 hst
          simp only [takeBlks, lardRow, Option.isSome_some] at h141
          repeat (first | refine walkL_seq ?_ | refine walkL_skip ?_ | refine walkL_block ?_ | refine walkL_nil ?_ | refine blockA_normal ?_ | refine thenA_normal ?_)
          refine walkL_region fun K hK => ?_
          simp (maxSteps := 4000000) only [go_sem]
          refine ⟨_, .given (hf := h87) (hd := rfl) (ha := rfl), ?_⟩
          simp (maxSteps := 4000000) only [go_sem]
          refine ⟨_, .own (ns := [33, 34, 35]) (news := [2]) (bads := [34, 35]) (rd := []) (hf := h141) (hnd := by decide) (hl0 := rfl) (hl1 := rfl) (hm := by repeat (first | exact trivial | refine And.intro ?_ ?_ | rfl)) (hnew := rfl) (hla := rfl) (ha := argG_all (by repeat (first | exact trivial | refine And.intro ?_ ?_ | exact argG_ren rfl | exact argG_deep rfl rfl))) (hrd := rfl) (hsh := shutG_nil _) (hb := rfl) (hfl := .inl rfl), ?_⟩
          simp (maxSteps := 4000000) only [go_sem, List.map_cons, List.map_nil]
          refine hK _ ?_
          clear hK K
          repeat (first | refine walkL_true rfl ?_ | refine walkL_false rfl ?_ | refine walkL_seq ?_ | refine walkL_skip ?_ | refine walkL_block ?_ | (refine walkL_region fun K hK => ?_; simp (maxSteps := 4000000) only [go_sem, hw]; refine hK _ ?_; clear hK K) | refine walkL_nil ?_ | refine walkL_ret ?_ | refine walkL_exit ?_ | refine blockA_here ?_ | refine blockA_other rfl ?_ | refine blockA_ret ?_ | refine blockA_normal ?_ | refine thenA_ret ?_ | refine thenA_exit ?_ | refine thenA_normal ?_)
          refine ⟨rfl, (d + 1, 2, c, v), ?_, ⟨hlt, hst, fun h => absurd (show 2 = 0 from h) (by decide), fun h => absurd (show d + 1 = 0 from h) (by omega), (by decide : 2 < 3)⟩, by dsimp only; omega⟩
          simp (maxSteps := 4000000) only [go_sem, nmL, lardRow]
          refine weak_of [] ?_ ?_ rfl rfl <;> simp [lessT, lessM, lessB, AV.less]
          all_goals first | done | rfl | exact ⟨rfl, rfl⟩ | trace_state
      · have he : d = M.length := by (have : ¬ d < M.length := by simpa using hb); omega
        subst he
        exfalso
        omega
    · -- phase 1
      subst hp
      have hpos : d ≠ 0 := fun h => by have := hd0 h; omega
      have hLA := leftAt_deep hpos
      simp (maxSteps := 4000000) only [go_sem, nmL, lardRow]
      repeat (first | refine walkL_seq ?_ | refine walkL_skip ?_ | refine walkL_block ?_ | (refine walkL_region fun K hK => ?_; simp (maxSteps := 4000000) only [go_sem]; refine hK _ ?_; clear hK K) | refine walkL_nil ?_ | refine walkL_ret ?_ | refine walkL_exit ?_ | refine blockA_here ?_ | refine blockA_other rfl ?_ | refine blockA_ret ?_ | refine blockA_normal ?_ | refine thenA_ret ?_ | refine thenA_exit ?_ | refine thenA_normal ?_)
      refine walkL_cond rfl (fun hb => ?_) (fun hb => ?_)
      · have hlt : d < M.length := by simpa using hb
        have hw : IntKind.i64.wrap ((d : Int) + 1) = ((d + 1 : Nat) : Int) := by rw [wr_small (by omega)]; simp
        obtain ⟨r, hr⟩ : ∃ r, M[d]? = some r := ⟨_, List.getElem?_eq_getElem hlt⟩
        obtain ⟨hdd, hrl, hday⟩ := day_ok hg hM hc hr
        have g1 := listRows_at hr
        have hni : ¬ ((d : Int) < 0) := by omega
        have hnd : needD k M cnt d = needL k r (cnt d) := by rw [needD, List.getD, hr]; rfl
        have hst := hstep hlt
        have hsp := hstop hlt
        rw [hnd] at hst
        have h86 := zf86 k hbl (d : Int) l (ordK k) w hll hla ⟨hw0, hw2⟩
        obtain ⟨c1, c2, c3⟩ := clrTo_ok (k := k) (day := (d : Int)) (w := w) hla k.batches.length
        have c4 := clrTo_len k (d : Int) l w k.batches.length
        change runSt k M cnt (d + 1) = (takeTo k (ordK k) (needL k r (cnt d)) (clrTo k (d : Int) l w k.batches.length).1 k.allerg.length).map fun c => (c, (clrTo k (d : Int) l w k.batches.length).2) at hst
        change runSt k M cnt (d + 1) = none → lastD k M cnt M.length = d ∧ endSt k M cnt = clrTo k (d : Int) l w k.batches.length at hsp
        obtain ⟨⟨C, v⟩, hC⟩ : ∃ a, a = clrTo k (d : Int) l w k.batches.length := ⟨_, rfl⟩
        rw [← hC] at h86 c1 c2 c3 c4 hst hsp
        dsimp only at c1 c2 c3 c4 hst
        have h87 := (zf87 k hg r (cnt d) 142 [.ptr [.bnd f [.agg k.cells]] 0, .ptr [.i (d : Int)] 0] hday (fun j hj => zf142 k f d j (cnt d j) (hf d j hdd (by omega)))).deep
        have h141 := zf141 k (needL k r (cnt d)) C (ordK k) v (by omega) hbl c1 (needL_ok hg hday) (by rw [needL_len]; exact hgo.2) (fun x hx => ordK_mem hx) (by rw [ordK_len]; exact hbl)
        rw [needL_len] at h141
        simp only [lardRow] at h86
        rw [Kitchen.cells] at h87
        obtain ⟨N, hN⟩ : ∃ N, N = needL k r (cnt d) := ⟨_, rfl⟩
        rw [← hN] at h87 h141 hst
        repeat (first | refine walkL_seq ?_ | refine walkL_skip ?_ | refine walkL_block ?_ | refine walkL_nil ?_ | refine blockA_normal ?_ | refine thenA_normal ?_)
        refine walkL_region fun K hK => ?_
        simp (maxSteps := 4000000) only [go_sem, g1, hni]
        refine hK _ ?_
        clear hK K
        refine walkL_release [7] ?_
        simp (maxSteps := 4000000) only [go_sem]
        repeat (first | refine walkL_seq ?_ | refine walkL_skip ?_ | refine walkL_block ?_ | refine walkL_nil ?_ | refine blockA_normal ?_ | refine thenA_normal ?_)
        refine walkL_region fun K hK => ?_
        simp (maxSteps := 4000000) only [go_sem]
        refine ⟨_, .own (ns := [33, 1, 35]) (news := []) (bads := [1, 35]) (rd := []) (hf := h86) (hnd := by decide) (hl0 := rfl) (hl1 := rfl) (hm := by repeat (first | exact trivial | refine And.intro ?_ ?_ | rfl)) (hnew := rfl) (hla := rfl) (ha := argG_all (by repeat (first | exact trivial | refine And.intro ?_ ?_ | exact argG_ren rfl | exact argG_deep rfl rfl))) (hrd := rfl) (hsh := shutG_nil _) (hb := rfl) (hfl := .inl rfl), ?_⟩
        simp (maxSteps := 4000000) only [go_sem, List.map_cons, List.map_nil]
        refine hK _ ?_
        clear hK K
        cases htk : takeTo k (ordK k) N C k.allerg.length with
        | none =>
          rw [htk] at h141 hst
          obtain ⟨hD, hE⟩ := hsp hst
          simp only [takeBlks, lardRow, Option.isSome_none] at h141
          repeat (first | refine walkL_seq ?_ | refine walkL_skip ?_ | refine walkL_block ?_ | refine walkL_nil ?_ | refine blockA_normal ?_ | refine thenA_normal ?_)
          refine walkL_region fun K hK => ?_
          simp (maxSteps := 4000000) only [go_sem]
          refine ⟨_, .given (hf := h87) (hd := rfl) (ha := rfl), ?_⟩
          simp (maxSteps := 4000000) only [go_sem]
          refine ⟨_, .own (ns := [33, 1, 35]) (news := []) (bads := [1, 35]) (rd := []) (hf := h141) (hnd := by decide) (hl0 := rfl) (hl1 := rfl) (hm := by repeat (first | exact trivial | refine And.intro ?_ ?_ | rfl)) (hnew := rfl) (hla := rfl) (ha := argG_all (by repeat (first | exact trivial | refine And.intro ?_ ?_ | exact argG_ren rfl | exact argG_deep rfl rfl))) (hrd := rfl) (hsh := shutG_nil _) (hb := rfl) (hfl := .inl rfl), ?_⟩
          simp (maxSteps := 4000000) only [go_sem, List.map_cons, List.map_nil]
          refine hK _ ?_
          clear hK K
          repeat (first | refine walkL_seq ?_ | refine walkL_skip ?_ | refine walkL_block ?_ | (refine walkL_region fun K hK => ?_; simp (maxSteps := 4000000) only [go_sem]; refine hK _ ?_; clear hK K) | refine walkL_nil ?_ | refine walkL_ret ?_ | refine walkL_exit ?_ | refine blockA_here ?_ | refine blockA_other rfl ?_ | refine blockA_ret ?_ | refine blockA_normal ?_ | refine thenA_ret ?_ | refine thenA_exit ?_ | refine thenA_normal ?_)
          refine walkL_release [1] ?_
          simp (maxSteps := 4000000) only [go_sem]
          repeat (first | refine walkL_true rfl ?_ | refine walkL_false rfl ?_ | refine walkL_seq ?_ | refine walkL_skip ?_ | refine walkL_block ?_ | (refine walkL_region fun K hK => ?_; simp (maxSteps := 4000000) only [go_sem]; refine hK _ ?_; clear hK K) | refine walkL_nil ?_ | refine walkL_ret ?_ | refine walkL_exit ?_ | refine blockA_here ?_ | refine blockA_other rfl ?_ | refine blockA_ret ?_ | refine blockA_normal ?_ | refine thenA_ret ?_ | refine thenA_exit ?_ | refine thenA_normal ?_)
          simp (maxSteps := 4000000) only [go_sem, retG, runBlks, lardRow, hD, hE, hLA, ← hA0]
        | some c =>
          rw [htk] at h141 hst
          simp only [takeBlks, lardRow, Option.isSome_some] at h141
          repeat (first | refine walkL_seq ?_ | refine walkL_skip ?_ | refine walkL_block ?_ | refine walkL_nil ?_ | refine blockA_normal ?_ | refine thenA_normal ?_)
          refine walkL_region fun K hK => ?_
          simp (maxSteps := 4000000) only [go_sem]
          refine ⟨_, .given (hf := h87) (hd := rfl) (ha := rfl), ?_⟩
          simp (maxSteps := 4000000) only [go_sem]
          refine ⟨_, .own (ns := [33, 1, 35]) (news := [2]) (bads := [1, 35]) (rd := []) (hf := h141) (hnd := by decide) (hl0 := rfl) (hl1 := rfl) (hm := by repeat (first | exact trivial | refine And.intro ?_ ?_ | rfl)) (hnew := rfl) (hla := rfl) (ha := argG_all (by repeat (first | exact trivial | refine And.intro ?_ ?_ | exact argG_ren rfl | exact argG_deep rfl rfl))) (hrd := rfl) (hsh := shutG_nil _) (hb := rfl) (hfl := .inl rfl), ?_⟩
          simp (maxSteps := 4000000) only [go_sem, List.map_cons, List.map_nil]
          refine hK _ ?_
          clear hK K
          repeat (first | refine walkL_true rfl ?_ | refine walkL_false rfl ?_ | refine walkL_seq ?_ | refine walkL_skip ?_ | refine walkL_block ?_ | (refine walkL_region fun K hK => ?_; simp (maxSteps := 4000000) only [go_sem, hw]; refine hK _ ?_; clear hK K) | refine walkL_nil ?_ | refine walkL_ret ?_ | refine walkL_exit ?_ | refine blockA_here ?_ | refine blockA_other rfl ?_ | refine blockA_ret ?_ | refine blockA_normal ?_ | refine thenA_ret ?_ | refine thenA_exit ?_ | refine thenA_normal ?_)
          refine ⟨rfl, (d + 1, 2, c, v), ?_, ⟨hlt, hst, fun h => absurd (show 2 = 0 from h) (by decide), fun h => absurd (show d + 1 = 0 from h) (by omega), (by decide : 2 < 3)⟩, by dsimp only; omega⟩
          simp (maxSteps := 4000000) only [go_sem, nmL, lardRow]
          refine weak_of [] ?_ ?_ rfl rfl <;> simp [lessT, lessM, lessB, AV.less]
          all_goals first | done | rfl | exact ⟨rfl, rfl⟩ | trace_state
      · have he : d = M.length := by (have : ¬ d < M.length := by simpa using hb); omega
        subst he
        obtain ⟨hD, hE⟩ := hlast rfl
        refine walkL_release [1] ?_
        simp (maxSteps := 4000000) only [go_sem]
        repeat (first | refine walkL_seq ?_ | refine walkL_skip ?_ | refine walkL_block ?_ | (refine walkL_region fun K hK => ?_; simp (maxSteps := 4000000) only [go_sem]; refine hK _ ?_; clear hK K) | refine walkL_nil ?_ | refine walkL_ret ?_ | refine walkL_exit ?_ | refine blockA_here ?_ | refine blockA_other rfl ?_ | refine blockA_ret ?_ | refine blockA_normal ?_ | refine thenA_ret ?_ | refine thenA_exit ?_ | refine thenA_normal ?_)
        simp (maxSteps := 4000000) only [go_sem, retG, runBlks, lardRow, hD, hE, hLA, ← hA0]
    · -- phase 2
      subst hp
      have hpos : d ≠ 0 := fun h => by have := hd0 h; omega
      have hLA := leftAt_deep hpos
      simp (maxSteps := 4000000) only [go_sem, nmL, lardRow]
      repeat (first | refine walkL_seq ?_ | refine walkL_skip ?_ | refine walkL_block ?_ | (refine walkL_region fun K hK => ?_; simp (maxSteps := 4000000) only [go_sem]; refine hK _ ?_; clear hK K) | refine walkL_nil ?_ | refine walkL_ret ?_ | refine walkL_exit ?_ | refine blockA_here ?_ | refine blockA_other rfl ?_ | refine blockA_ret ?_ | refine blockA_normal ?_ | refine thenA_ret ?_ | refine thenA_exit ?_ | refine thenA_normal ?_)
      refine walkL_cond rfl (fun hb => ?_) (fun hb => ?_)
      · have hlt : d < M.length := by simpa using hb
        have hw : IntKind.i64.wrap ((d : Int) + 1) = ((d + 1 : Nat) : Int) := by rw [wr_small (by omega)]; simp
        obtain ⟨r, hr⟩ : ∃ r, M[d]? = some r := ⟨_, List.getElem?_eq_getElem hlt⟩
        obtain ⟨hdd, hrl, hday⟩ := day_ok hg hM hc hr
        have g1 := listRows_at hr
        have hni : ¬ ((d : Int) < 0) := by omega
        have hnd : needD k M cnt d = needL k r (cnt d) := by rw [needD, List.getD, hr]; rfl
        have hst := hstep hlt
        have hsp := hstop hlt
        rw [hnd] at hst
        have h86 := zf86 k hbl (d : Int) l (ordK k) w hll hla ⟨hw0, hw2⟩
        obtain ⟨c1, c2, c3⟩ := clrTo_ok (k := k) (day := (d : Int)) (w := w) hla k.batches.length
        have c4 := clrTo_len k (d : Int) l w k.batches.length
        change runSt k M cnt (d + 1) = (takeTo k (ordK k) (needL k r (cnt d)) (clrTo k (d : Int) l w k.batches.length).1 k.allerg.length).map fun c => (c, (clrTo k (d : Int) l w k.batches.length).2) at hst
        change runSt k M cnt (d + 1) = none → lastD k M cnt M.length = d ∧ endSt k M cnt = clrTo k (d : Int) l w k.batches.length at hsp
        obtain ⟨⟨C, v⟩, hC⟩ : ∃ a, a = clrTo k (d : Int) l w k.batches.length := ⟨_, rfl⟩
        rw [← hC] at h86 c1 c2 c3 c4 hst hsp
        dsimp only at c1 c2 c3 c4 hst
        have h87 := (zf87 k hg r (cnt d) 142 [.ptr [.bnd f [.agg k.cells]] 0, .ptr [.i (d : Int)] 0] hday (fun j hj => zf142 k f d j (cnt d j) (hf d j hdd (by omega)))).deep
        have h141 := zf141 k (needL k r (cnt d)) C (ordK k) v (by omega) hbl c1 (needL_ok hg hday) (by rw [needL_len]; exact hgo.2) (fun x hx => ordK_mem hx) (by rw [ordK_len]; exact hbl)
        rw [needL_len] at h141
        simp only [lardRow] at h86
        rw [Kitchen.cells] at h87
        obtain ⟨N, hN⟩ : ∃ N, N = needL k r (cnt d) := ⟨_, rfl⟩
        rw [← hN] at h87 h141 hst
        repeat (first | refine walkL_seq ?_ | refine walkL_skip ?_ | refine walkL_block ?_ | refine walkL_nil ?_ | refine blockA_normal ?_ | refine thenA_normal ?_)
        refine walkL_region fun K hK => ?_
        simp (maxSteps := 4000000) only [go_sem, g1, hni]
        refine hK _ ?_
        clear hK K
        refine walkL_release [7] ?_
        simp (maxSteps := 4000000) only [go_sem]
        repeat (first | refine walkL_seq ?_ | refine walkL_skip ?_ | refine walkL_block ?_ | refine walkL_nil ?_ | refine blockA_normal ?_ | refine thenA_normal ?_)
        refine walkL_region fun K hK => ?_
        simp (maxSteps := 4000000) only [go_sem]
        refine ⟨_, .own (ns := [33, 2, 35]) (news := []) (bads := [2, 35]) (rd := []) (hf := h86) (hnd := by decide) (hl0 := rfl) (hl1 := rfl) (hm := by repeat (first | exact trivial | refine And.intro ?_ ?_ | rfl)) (hnew := rfl) (hla := rfl) (ha := argG_all (by repeat (first | exact trivial | refine And.intro ?_ ?_ | exact argG_ren rfl | exact argG_deep rfl rfl))) (hrd := rfl) (hsh := shutG_nil _) (hb := rfl) (hfl := .inl rfl), ?_⟩
        simp (maxSteps := 4000000) only [go_sem, List.map_cons, List.map_nil]
        refine hK _ ?_
        clear hK K
        cases htk : takeTo k (ordK k) N C k.allerg.length with
        | none =>
          rw [htk] at h141 hst
          obtain ⟨hD, hE⟩ := hsp hst
          simp only [takeBlks, lardRow, Option.isSome_none] at h141
          repeat (first | refine walkL_seq ?_ | refine walkL_skip ?_ | refine walkL_block ?_ | refine walkL_nil ?_ | refine blockA_normal ?_ | refine thenA_normal ?_)
          refine walkL_region fun K hK => ?_
          simp (maxSteps := 4000000) only [go_sem]
          refine ⟨_, .given (hf := h87) (hd := rfl) (ha := rfl), ?_⟩
          simp (maxSteps := 4000000) only [go_sem]
          refine ⟨_, .own (ns := [33, 2, 35]) (news := []) (bads := [2, 35]) (rd := []) (hf := h141) (hnd := by decide) (hl0 := rfl) (hl1 := rfl) (hm := by repeat (first | exact trivial | refine And.intro ?_ ?_ | rfl)) (hnew := rfl) (hla := rfl) (ha := argG_all (by repeat (first | exact trivial | refine And.intro ?_ ?_ | exact argG_ren rfl | exact argG_deep rfl rfl))) (hrd := rfl) (hsh := shutG_nil _) (hb := rfl) (hfl := .inl rfl), ?_⟩
          simp (maxSteps := 4000000) only [go_sem, List.map_cons, List.map_nil]
          refine hK _ ?_
          clear hK K
          repeat (first | refine walkL_seq ?_ | refine walkL_skip ?_ | refine walkL_block ?_ | (refine walkL_region fun K hK => ?_; simp (maxSteps := 4000000) only [go_sem]; refine hK _ ?_; clear hK K) | refine walkL_nil ?_ | refine walkL_ret ?_ | refine walkL_exit ?_ | refine blockA_here ?_ | refine blockA_other rfl ?_ | refine blockA_ret ?_ | refine blockA_normal ?_ | refine thenA_ret ?_ | refine thenA_exit ?_ | refine thenA_normal ?_)
          refine walkL_release [2] ?_
          simp (maxSteps := 4000000) only [go_sem]
          repeat (first | refine walkL_true rfl ?_ | refine walkL_false rfl ?_ | refine walkL_seq ?_ | refine walkL_skip ?_ | refine walkL_block ?_ | (refine walkL_region fun K hK => ?_; simp (maxSteps := 4000000) only [go_sem]; refine hK _ ?_; clear hK K) | refine walkL_nil ?_ | refine walkL_ret ?_ | refine walkL_exit ?_ | refine blockA_here ?_ | refine blockA_other rfl ?_ | refine blockA_ret ?_ | refine blockA_normal ?_ | refine thenA_ret ?_ | refine thenA_exit ?_ | refine thenA_normal ?_)
          simp (maxSteps := 4000000) only [go_sem, retG, runBlks, lardRow, hD, hE, hLA, ← hA0]
        | some c =>
          rw [htk] at h141 hst
          simp only [takeBlks, lardRow, Option.isSome_some] at h141
          repeat (first | refine walkL_seq ?_ | refine walkL_skip ?_ | refine walkL_block ?_ | refine walkL_nil ?_ | refine blockA_normal ?_ | refine thenA_normal ?_)
          refine walkL_region fun K hK => ?_
          simp (maxSteps := 4000000) only [go_sem]
          refine ⟨_, .given (hf := h87) (hd := rfl) (ha := rfl), ?_⟩
          simp (maxSteps := 4000000) only [go_sem]
          refine ⟨_, .own (ns := [33, 2, 35]) (news := [1]) (bads := [2, 35]) (rd := []) (hf := h141) (hnd := by decide) (hl0 := rfl) (hl1 := rfl) (hm := by repeat (first | exact trivial | refine And.intro ?_ ?_ | rfl)) (hnew := rfl) (hla := rfl) (ha := argG_all (by repeat (first | exact trivial | refine And.intro ?_ ?_ | exact argG_ren rfl | exact argG_deep rfl rfl))) (hrd := rfl) (hsh := shutG_nil _) (hb := rfl) (hfl := .inl rfl), ?_⟩
          simp (maxSteps := 4000000) only [go_sem, List.map_cons, List.map_nil]
          refine hK _ ?_
          clear hK K
          repeat (first | refine walkL_true rfl ?_ | refine walkL_false rfl ?_ | refine walkL_seq ?_ | refine walkL_skip ?_ | refine walkL_block ?_ | (refine walkL_region fun K hK => ?_; simp (maxSteps := 4000000) only [go_sem, hw]; refine hK _ ?_; clear hK K) | refine walkL_nil ?_ | refine walkL_ret ?_ | refine walkL_exit ?_ | refine blockA_here ?_ | refine blockA_other rfl ?_ | refine blockA_ret ?_ | refine blockA_normal ?_ | refine thenA_ret ?_ | refine thenA_exit ?_ | refine thenA_normal ?_)
          refine ⟨rfl, (d + 1, 1, c, v), ?_, ⟨hlt, hst, fun h => absurd (show 1 = 0 from h) (by decide), fun h => absurd (show d + 1 = 0 from h) (by omega), (by decide : 1 < 3)⟩, by dsimp only; omega⟩
          simp (maxSteps := 4000000) only [go_sem, nmL, lardRow]
          refine weak_of [] ?_ ?_ rfl rfl <;> simp [lessT, lessM, lessB, AV.less]
          all_goals first | done | rfl | exact ⟨rfl, rfl⟩ | trace_state
      · have he : d = M.length := by (have : ¬ d < M.length := by simpa using hb); omega
        subst he
        obtain ⟨hD, hE⟩ := hlast rfl
        refine walkL_release [2] ?_
        simp (maxSteps := 4000000) only [go_sem]
        repeat (first | refine walkL_seq ?_ | refine walkL_skip ?_ | refine walkL_block ?_ | (refine walkL_region fun K hK => ?_; simp (maxSteps := 4000000) only [go_sem]; refine hK _ ?_; clear hK K) | refine walkL_nil ?_ | refine walkL_ret ?_ | refine walkL_exit ?_ | refine blockA_here ?_ | refine blockA_other rfl ?_ | refine blockA_ret ?_ | refine blockA_normal ?_ | refine thenA_ret ?_ | refine thenA_exit ?_ | refine thenA_normal ?_)
        simp (maxSteps := 4000000) only [go_sem, retG, runBlks, lardRow, hD, hE, hLA, ← hA0]
end Go.Ab
namespace Go.Ab
open Go.RowKit Go.Proofs
set_option maxHeartbeats 16000000
set_option maxRecDepth 20000
attribute [local irreducible] WalkL Walk
def sel (b : Bool) (d : DV) : AV := bif b then .undef else .d d
@[go_sem] theorem sel_true (d : DV) : sel true d = .undef := rfl
@[go_sem] theorem sel_false (d : DV) : sel false d = .d d := rfl
@[go_sem] theorem sel_mapN (h : Nat → Option Nat) (b : Bool) (d : DV) : AV.mapN h (sel b d) = sel b d := by cases b <;> simp [sel, AV.mapN]
@[go_sem] theorem sel_sub (n : Nat) (h : AV → AV) (b : Bool) (d : DV) : AV.sub n h (sel b d) = sel b d := by cases b <;> simp [sel, AV.sub]
def stB (a b : Bool) (x y : Blk) : Option Blk := bif a then none else some (bif b then x else y)
@[go_sem] theorem stB_t (b : Bool) (x y : Blk) : stB true b x y = none := rfl
@[go_sem] theorem stB_ft (x y : Blk) : stB false true x y = some x := rfl
@[go_sem] theorem stB_ff (x y : Blk) : stB false false x y = some y := rfl
def mostK (k : Kitchen) (M : List (List Int)) : Nat := lastD k M (fun d g => (dinAt k d g).count.hi) M.length
def leastK (k : Kitchen) (M : List (List Int)) : Nat := lastD k M (fun d g => (dinAt k d g).count.lo) M.length
theorem zf45 (k : Kitchen) (M : List (List Int)) (hs : KitSmall k) (hM : M.length < 2 ^ 30) (hMr : ∀ r ∈ M, r.length < 2 ^ 30) :
    Fn Tryz.prog 45 [.agg k.cells, .sl (listRows M)] (.tup (if openK k M = 0 then [.i (mostK k M), .i (leastK k M), .i 0] else [.i 0, .i 0, .i (openK k M)])) := by
  have h84 := zf84 k M hs hM hMr
  rw [Kitchen.cells] at h84
  by_cases h0 : openK k M = 0
  · rw [if_pos h0]
    have hg : KitGood k := by
      unfold openK at h0
      split at h0
      · rename_i hz; exact kit_good (kitE_zero.1 hz)
      · contradiction
    have hsh : shapedB (menuB k) M k.days = true := by
      unfold openK at h0
      split at h0
      · split at h0
        · assumption
        · cases h0
      · contradiction
    rw [h0] at h84
    have h85 := zf85 k hg.batches
    change FnG Tryz.prog 85 [] [] (List.map AV.d [.agg k.cells]) _ _ at h85
    have hhi := (zf94 k hg M hsh 89 _ (hi_ok hg) (fun d g hd hgl => zf89 k d g hd hgl)).boxNil
    have hlo := (zf94 k hg M hsh 95 _ (lo_ok hg) (fun d g hd hgl => zf95 k d g hd hgl)).boxNil
    change FnG Tryz.prog 94 _ _ _ (.d (.i (mostK k M : Nat))) _ at hhi
    change FnG Tryz.prog 94 _ _ _ (.d (.i (leastK k M : Nat))) _ at hlo
    obtain ⟨hi, hhi'⟩ : ∃ n, n = mostK k M := ⟨_, rfl⟩
    obtain ⟨lo, hlo'⟩ : ∃ n, n = leastK k M := ⟨_, rfl⟩
    rw [← hhi'] at hhi ⊢
    rw [← hlo'] at hlo ⊢
    refine fn_walk 29 Tryz.call45 Tryz.func45 rfl (by decide) fun J => ?_
    simp (maxSteps := 4000000) only [go_sem, St.start, Tryz.ntmps45, Tryz.results45, Kitchen.cells]
    repeat (first | refine walkL_true rfl ?_ | refine walkL_false rfl ?_ | refine walkL_seq ?_ | refine walkL_skip ?_ | refine walkL_block ?_ | (refine walkL_region fun K hK => ?_; simp (maxSteps := 4000000) only [go_sem]; (repeat (first | (refine ⟨_, .lent (hf := h84) (hd := rfl) (hr := rfl), ?_⟩; simp (maxSteps := 4000000) only [go_sem]) | (refine ⟨_, .given (hf := h84) (hd := rfl) (ha := rfl), ?_⟩; simp (maxSteps := 4000000) only [go_sem]))); refine hK _ ?_; clear hK K) | refine walkL_nil ?_ | refine walkL_ret ?_ | refine walkL_exit ?_ | refine blockA_here ?_ | refine blockA_other rfl ?_ | refine blockA_ret ?_ | refine blockA_normal ?_ | refine thenA_ret ?_ | refine thenA_exit ?_ | refine thenA_normal ?_)
    have hcl : k.cells.length = 4 := rfl
    have hct : k.cells.take 4 = k.cells := rfl
    refine walkL_release [2, 7] ?_
    simp (maxSteps := 4000000) only [go_sem]
    refine walkL_lose [2, 3, 8, 9, 10, 11, 12, 13, 14, 15, 16] ?_ ?_
    · simp (maxSteps := 4000000) only [go_sem]
      refine weak_of [] ?_ ?_ rfl rfl <;> simp [lessT, lessM, lessB, AV.less]
    simp (maxSteps := 4000000) only [go_sem]
    refine walkL_drawnC (by kernel_rfl) (by kernel_rfl) (fun m => ⟨[.d (.agg k.cells), .d (.sl (listRows M)), .undef, .undef, .d (bif m 12 then .i 0 else .i (hi : Nat)), .d (bif m 13 then .i 0 else .i (lo : Nat)), .d (.i 0), .d (.ptr k.cells 0), .undef, .undef, .undef, .undef, .undef, .undef, .undef, .undef, .undef,
        sel (m 0) (.agg k.cells), bif m 1 then .undef else .box 9 0, sel (m 2) (.sl (listRows M)), sel (m 3) (.agg k.cells), sel (m 4) (.bnd 89 [.agg k.cells]), sel (m 5) (.i (hi : Nat)), sel (m 6) (.agg k.cells), bif m 7 then .undef else .box 12 0, sel (m 8) (.sl (listRows M)), sel (m 9) (.agg k.cells), sel (m 10) (.bnd 95 [.agg k.cells]), sel (m 11) (.i (lo : Nat))],
      [none, none, none, none, none, none, none, none, none, stB (m 1) (m 5) (.box (lardRow k (.own 10) (.own 11) 0)) (.box []), stB (m 1) (m 5) (.arr 3 1 (intRows (amtK k))) (.arr 3 1 (intRows (left0 k))), stB (m 1) (m 5) (.arr 3 1 (natRows (ordK k))) (.arr 3 1 (natRows (ordK k))),
        stB (m 7) (m 11) (.box (lardRow k (.own 13) (.own 14) 0)) (.box []), stB (m 7) (m 11) (.arr 3 1 (intRows (amtK k))) (.arr 3 1 (intRows (left0 k))), stB (m 7) (m 11) (.arr 3 1 (natRows (ordK k))) (.arr 3 1 (natRows (ordK k))), none, none, none, none, none, none, none, none, none, none, none, none, none, none]⟩) ?_ ?_ ?_
    · simp (maxSteps := 4000000) only [go_sem]
      rfl
    · refine ⟨fun m hm hd hc => ?_, fun m hm hd hc => ?_, fun m hm hd hc => ?_, fun m hm hd hc => ?_, fun m hm hd hc => ?_, fun m hm hd hc => ?_, fun m hm hd hc => ?_, fun m hm hd hc => ?_, fun m hm hd hc => ?_, fun m hm hd hc => ?_, fun m hm hd hc => ?_, fun m hm hd hc => ?_, fun m hm hd hc => ?_, fun m hm hd hc => ?_, fun m hm hd hc => ?_, trivial⟩
      · simp only [closedM, depsM, Region.binds, true_and, and_true, Nat.zero_add, Nat.reduceAdd, reduceCtorEq, forall_const] at hc hd
        cases h1 : m 1 <;> cases h5 : m 5 <;> cases h7 : m 7 <;> cases h11 : m 11 <;> simp [h1, h5, h7, h11, hm] at hc hd
        all_goals
          refine ⟨rfl, rfl, ?_⟩
          simp (maxSteps := 4000000) only [go_sem, hm, hd, h1, h5, h7, h11, hcl, hct]
      · simp only [closedM, depsM, Region.binds, true_and, and_true, Nat.zero_add, Nat.reduceAdd, reduceCtorEq, forall_const] at hc hd
        have h1 := hm
        cases h5 : m 5 <;> cases h7 : m 7 <;> cases h11 : m 11 <;> simp [h1, h5, h7, h11, hm] at hc hd
        all_goals
          refine ⟨rfl, rfl, ?_⟩
          simp (maxSteps := 4000000) only [go_sem, hm, hd, h1, h5, h7, h11, hcl, hct]
        refine ⟨_, .made (news := [9, 10, 11]) (hf := h85) (hd := rfl) (hn := by decide) (hl := rfl) (hnew := rfl) (hx := rfl), ?_⟩
        simp (maxSteps := 4000000) only [go_sem, List.map_cons, List.map_nil, lardRow]
      · simp only [closedM, depsM, Region.binds, true_and, and_true, Nat.zero_add, Nat.reduceAdd, reduceCtorEq, forall_const] at hc hd
        cases h1 : m 1 <;> cases h5 : m 5 <;> cases h7 : m 7 <;> cases h11 : m 11 <;> simp [h1, h5, h7, h11, hm] at hc hd
        all_goals
          refine ⟨rfl, rfl, ?_⟩
          simp (maxSteps := 4000000) only [go_sem, hm, hd, h1, h5, h7, h11, hcl, hct]
      · simp only [closedM, depsM, Region.binds, true_and, and_true, Nat.zero_add, Nat.reduceAdd, reduceCtorEq, forall_const] at hc hd
        cases h1 : m 1 <;> cases h5 : m 5 <;> cases h7 : m 7 <;> cases h11 : m 11 <;> simp [h1, h5, h7, h11, hm] at hc hd
        all_goals
          refine ⟨rfl, rfl, ?_⟩
          simp (maxSteps := 4000000) only [go_sem, hm, hd, h1, h5, h7, h11, hcl, hct]
      · simp only [closedM, depsM, Region.binds, true_and, and_true, Nat.zero_add, Nat.reduceAdd, reduceCtorEq, forall_const] at hc hd
        cases h1 : m 1 <;> cases h5 : m 5 <;> cases h7 : m 7 <;> cases h11 : m 11 <;> simp [h1, h5, h7, h11, hm] at hc hd
        all_goals
          refine ⟨rfl, rfl, ?_⟩
          simp (maxSteps := 4000000) only [go_sem, hm, hd, h1, h5, h7, h11, hcl, hct]
      · simp only [closedM, depsM, Region.binds, true_and, and_true, Nat.zero_add, Nat.reduceAdd, reduceCtorEq, forall_const] at hc hd
        have h5 := hm
        cases h1 : m 1 <;> cases h7 : m 7 <;> cases h11 : m 11 <;> simp [h1, h5, h7, h11, hm] at hc hd
        all_goals
          refine ⟨rfl, rfl, ?_⟩
          simp (maxSteps := 4000000) only [go_sem, hm, hd, h1, h5, h7, h11, hcl, hct]
        simp (maxSteps := 4000000) only [go_sem, lardRow]
        refine ⟨_, .own (ns := [9, 10, 11]) (news := []) (bads := [10, 11]) (rd := []) (hf := hhi) (hnd := by decide) (hl0 := rfl) (hl1 := rfl) (hm := by repeat (first | exact trivial | refine And.intro ?_ ?_ | rfl)) (hnew := rfl) (hla := rfl) (ha := argG_all (by repeat (first | exact trivial | refine And.intro ?_ ?_ | exact argG_ren rfl | exact argG_deep rfl rfl))) (hrd := rfl) (hsh := shutG_nil _) (hb := rfl) (hfl := .inl rfl), ?_⟩
        simp (maxSteps := 4000000) only [go_sem, List.map_cons, List.map_nil, lardRow]
      · simp only [closedM, depsM, Region.binds, true_and, and_true, Nat.zero_add, Nat.reduceAdd, reduceCtorEq, forall_const] at hc hd
        cases h1 : m 1 <;> cases h5 : m 5 <;> cases h7 : m 7 <;> cases h11 : m 11 <;> simp [h1, h5, h7, h11, hm] at hc hd
        all_goals
          refine ⟨rfl, rfl, ?_⟩
          simp (maxSteps := 4000000) only [go_sem, hm, hd, h1, h5, h7, h11, hcl, hct]
      · simp only [closedM, depsM, Region.binds, true_and, and_true, Nat.zero_add, Nat.reduceAdd, reduceCtorEq, forall_const] at hc hd
        have h7 := hm
        cases h1 : m 1 <;> cases h5 : m 5 <;> cases h11 : m 11 <;> simp [h1, h5, h7, h11, hm] at hc hd
        all_goals
          refine ⟨rfl, rfl, ?_⟩
          simp (maxSteps := 4000000) only [go_sem, hm, hd, h1, h5, h7, h11, hcl, hct]
        refine ⟨_, .made (news := [12, 13, 14]) (hf := h85) (hd := rfl) (hn := by decide) (hl := rfl) (hnew := rfl) (hx := rfl), ?_⟩
        simp (maxSteps := 4000000) only [go_sem, List.map_cons, List.map_nil, lardRow]
      · simp only [closedM, depsM, Region.binds, true_and, and_true, Nat.zero_add, Nat.reduceAdd, reduceCtorEq, forall_const] at hc hd
        cases h1 : m 1 <;> cases h5 : m 5 <;> cases h7 : m 7 <;> cases h11 : m 11 <;> simp [h1, h5, h7, h11, hm] at hc hd
        all_goals
          refine ⟨rfl, rfl, ?_⟩
          simp (maxSteps := 4000000) only [go_sem, hm, hd, h1, h5, h7, h11, hcl, hct]
      · simp only [closedM, depsM, Region.binds, true_and, and_true, Nat.zero_add, Nat.reduceAdd, reduceCtorEq, forall_const] at hc hd
        cases h1 : m 1 <;> cases h5 : m 5 <;> cases h7 : m 7 <;> cases h11 : m 11 <;> simp [h1, h5, h7, h11, hm] at hc hd
        all_goals
          refine ⟨rfl, rfl, ?_⟩
          simp (maxSteps := 4000000) only [go_sem, hm, hd, h1, h5, h7, h11, hcl, hct]
      · simp only [closedM, depsM, Region.binds, true_and, and_true, Nat.zero_add, Nat.reduceAdd, reduceCtorEq, forall_const] at hc hd
        cases h1 : m 1 <;> cases h5 : m 5 <;> cases h7 : m 7 <;> cases h11 : m 11 <;> simp [h1, h5, h7, h11, hm] at hc hd
        all_goals
          refine ⟨rfl, rfl, ?_⟩
          simp (maxSteps := 4000000) only [go_sem, hm, hd, h1, h5, h7, h11, hcl, hct]
      · simp only [closedM, depsM, Region.binds, true_and, and_true, Nat.zero_add, Nat.reduceAdd, reduceCtorEq, forall_const] at hc hd
        have h11 := hm
        cases h1 : m 1 <;> cases h5 : m 5 <;> cases h7 : m 7 <;> simp [h1, h5, h7, h11, hm] at hc hd
        all_goals
          refine ⟨rfl, rfl, ?_⟩
          simp (maxSteps := 4000000) only [go_sem, hm, hd, h1, h5, h7, h11, hcl, hct]
        simp (maxSteps := 4000000) only [go_sem, lardRow]
        refine ⟨_, .own (ns := [12, 13, 14]) (news := []) (bads := [13, 14]) (rd := []) (hf := hlo) (hnd := by decide) (hl0 := rfl) (hl1 := rfl) (hm := by repeat (first | exact trivial | refine And.intro ?_ ?_ | rfl)) (hnew := rfl) (hla := rfl) (ha := argG_all (by repeat (first | exact trivial | refine And.intro ?_ ?_ | exact argG_ren rfl | exact argG_deep rfl rfl))) (hrd := rfl) (hsh := shutG_nil _) (hb := rfl) (hfl := .inl rfl), ?_⟩
        simp (maxSteps := 4000000) only [go_sem, List.map_cons, List.map_nil, lardRow]
      · simp only [closedM, depsM, Region.binds, true_and, and_true, Nat.zero_add, Nat.reduceAdd, reduceCtorEq, forall_const] at hc hd
        cases h1 : m 1 <;> cases h5 : m 5 <;> cases h7 : m 7 <;> cases h11 : m 11 <;> simp [h1, h5, h7, h11, hm] at hc hd
        all_goals
          refine ⟨rfl, rfl, ?_⟩
          simp (maxSteps := 4000000) only [go_sem, hm, hd, h1, h5, h7, h11, hcl, hct]
      · simp only [closedM, depsM, Region.binds, true_and, and_true, Nat.zero_add, Nat.reduceAdd, reduceCtorEq, forall_const] at hc hd
        cases h1 : m 1 <;> cases h5 : m 5 <;> cases h7 : m 7 <;> cases h11 : m 11 <;> simp [h1, h5, h7, h11, hm] at hc hd
        all_goals
          refine ⟨rfl, rfl, ?_⟩
          simp (maxSteps := 4000000) only [go_sem, hm, hd, h1, h5, h7, h11, hcl, hct]
      · simp only [closedM, depsM, Region.binds, true_and, and_true, Nat.zero_add, Nat.reduceAdd, reduceCtorEq, forall_const] at hc hd
        cases h1 : m 1 <;> cases h5 : m 5 <;> cases h7 : m 7 <;> cases h11 : m 11 <;> simp [h1, h5, h7, h11, hm] at hc hd
        all_goals
          refine ⟨rfl, rfl, ?_⟩
          simp (maxSteps := 4000000) only [go_sem, hm, hd, h1, h5, h7, h11, hcl, hct]
    · simp (maxSteps := 4000000) only [go_sem]
      repeat (first | refine walkL_seq ?_ | refine walkL_skip ?_ | refine walkL_block ?_ | (refine walkL_region fun K hK => ?_; simp (maxSteps := 4000000) only [go_sem]; refine hK _ ?_; clear hK K) | refine walkL_nil ?_ | refine walkL_ret ?_ | refine walkL_exit ?_ | refine blockA_here ?_ | refine blockA_other rfl ?_ | refine blockA_ret ?_ | refine blockA_normal ?_ | refine thenA_ret ?_ | refine thenA_exit ?_ | refine thenA_normal ?_)
      simp (maxSteps := 4000000) only [go_sem]
  · rw [if_neg h0]
    have hz : (openK k M != 0) = true := by simpa using h0
    obtain ⟨e, he⟩ : ∃ e, e = openK k M := ⟨_, rfl⟩
    rw [← he] at h84 hz ⊢
    refine fn_walk 29 Tryz.call45 Tryz.func45 rfl (by decide) fun J => ?_
    simp (maxSteps := 4000000) only [go_sem, St.start, Tryz.ntmps45, Tryz.results45, Kitchen.cells]
    repeat (first | refine walkL_true rfl ?_ | refine walkL_false rfl ?_ | refine walkL_seq ?_ | refine walkL_skip ?_ | refine walkL_block ?_ | (refine walkL_region fun K hK => ?_; simp (maxSteps := 4000000) only [go_sem, hz]; (repeat (first | (refine ⟨_, .lent (hf := h84) (hd := rfl) (hr := rfl), ?_⟩; simp (maxSteps := 4000000) only [go_sem, hz]) | (refine ⟨_, .given (hf := h84) (hd := rfl) (ha := rfl), ?_⟩; simp (maxSteps := 4000000) only [go_sem, hz]))); refine hK _ ?_; clear hK K) | refine walkL_nil ?_ | refine walkL_ret ?_ | refine walkL_exit ?_ | refine blockA_here ?_ | refine blockA_other rfl ?_ | refine blockA_ret ?_ | refine blockA_normal ?_ | refine thenA_ret ?_ | refine thenA_exit ?_ | refine thenA_normal ?_)
    simp (maxSteps := 4000000) only [go_sem]
end Go.Ab
namespace Go.Ab
open Go.RowKit Go.Proofs
set_option maxHeartbeats 16000000
set_option maxRecDepth 20000
attribute [local irreducible] WalkL Walk
def ordG (k : Kitchen) (o : List Nat) (needs : List Int) (a : List Int × List Int) : Nat → List Int × List Int
  | 0 => a
  | g + 1 => ((takeG k o g (ordG k o needs a g).1 (getI needs (g : Int))).1, (ordG k o needs a g).2.set g (getI (ordG k o needs a g).2 (g : Int) + (takeG k o g (ordG k o needs a g).1 (getI needs (g : Int))).2))
def hiC (k : Kitchen) (d g : Nat) : Int := (dinAt k d g).count.hi
def ordD (k : Kitchen) (M : List (List Int)) : Nat → List Int × List Int × Int
  | 0 => (amtK k, List.replicate k.allerg.length 0, 0)
  | d + 1 => ((ordG k (ordK k) (needD k M (hiC k) d) ((clrTo k (d : Int) (ordD k M d).1 (ordD k M d).2.2 k.batches.length).1, (ordD k M d).2.1) k.allerg.length).1,
      (ordG k (ordK k) (needD k M (hiC k) d) ((clrTo k (d : Int) (ordD k M d).1 (ordD k M d).2.2 k.batches.length).1, (ordD k M d).2.1) k.allerg.length).2,
      (clrTo k (d : Int) (ordD k M d).1 (ordD k M d).2.2 k.batches.length).2)
def orderK (k : Kitchen) (M : List (List Int)) : List Int := (ordD k M M.length).2.1
def BuyOk (n : Int) (l : List Int) : Prop := ∀ x ∈ l, 0 ≤ x ∧ x ≤ n
theorem ordG_ok {k : Kitchen} {o : List Nat} {needs : List Int} {a : List Int × List Int} {B : Int} (h : AmtOk a.1) (hb : BuyOk B a.2) (hB : 0 ≤ B) (hn : ∀ x ∈ needs, 0 ≤ x ∧ x ≤ 2 ^ 40) (g : Nat) :
    AmtOk (ordG k o needs a g).1 ∧ (ordG k o needs a g).1.length = a.1.length ∧ BuyOk (B + 2 ^ 40) (ordG k o needs a g).2 ∧ (ordG k o needs a g).2.length = a.2.length ∧ ∀ i : Nat, g ≤ i → getI (ordG k o needs a g).2 (i : Int) = getI a.2 (i : Int) := by
  induction g with
  | zero => exact ⟨h, rfl, fun x hx => by have := hb x hx; omega, rfl, fun _ _ => rfl⟩
  | succ g ih =>
    obtain ⟨h1, h2, h3, h4, h5⟩ := ih
    have hng : 0 ≤ getI needs (g : Int) ∧ getI needs (g : Int) ≤ 2 ^ 40 := getI_in hn (by decide) _
    have ht := takeG_ok (k := k) (good := g) o (a := ((ordG k o needs a g).1, getI needs (g : Int))) h1 hng.1
    change AmtOk (takeG k o g (ordG k o needs a g).1 (getI needs (g : Int))).1 ∧ (takeG k o g (ordG k o needs a g).1 (getI needs (g : Int))).1.length = (ordG k o needs a g).1.length ∧ 0 ≤ (takeG k o g (ordG k o needs a g).1 (getI needs (g : Int))).2 ∧ (takeG k o g (ordG k o needs a g).1 (getI needs (g : Int))).2 ≤ getI needs (g : Int) at ht
    obtain ⟨t1, t2, t3, t4⟩ := ht
    have hbg : 0 ≤ getI a.2 (g : Int) ∧ getI a.2 (g : Int) ≤ B := getI_in hb ⟨Int.le_refl 0, hB⟩ _
    refine ⟨t1, by rw [ordG]; dsimp only; rw [t2, h2], ?_, by rw [ordG]; simp [h4], fun i hi => ?_⟩
    · intro x hx
      rw [ordG] at hx
      rcases List.mem_or_eq_of_mem_set hx with hx | hx
      · exact h3 x hx
      · rw [hx, h5 g (Nat.le_refl _)]
        omega
    · rw [ordG]
      dsimp only
      rw [getI, getI, List.getD, List.getD, Int.toNat_natCast, List.getElem?_set_ne (by omega)]
      have := h5 i (by omega)
      rw [getI, getI, List.getD, List.getD, Int.toNat_natCast] at this
      exact this
theorem ordD_ok {k : Kitchen} (hg : KitGood k) {M : List (List Int)} (hM : shapedB (menuB k) M k.days = true) (d : Nat) (hd : d ≤ M.length) :
    AmtOk (ordD k M d).1 ∧ (ordD k M d).1.length = k.batches.length ∧ BuyOk (2 ^ 40 * d) (ordD k M d).2.1 ∧ (ordD k M d).2.1.length = k.allerg.length ∧ 0 ≤ (ordD k M d).2.2 ∧ (ordD k M d).2.2 ≤ 10000000 * d := by
  induction d with
  | zero => exact ⟨amtK_ok hg, by simp [ordD, amtK], fun x hx => by rw [ordD] at hx; have := List.eq_of_mem_replicate hx; omega, by simp [ordD], Int.le_refl 0, by simp [ordD]⟩
  | succ d ih =>
    obtain ⟨h1, h2, h3, h4, h5, h6⟩ := ih (by omega)
    obtain ⟨r, hr⟩ : ∃ r, M[d]? = some r := ⟨_, List.getElem?_eq_getElem (by omega)⟩
    obtain ⟨_, _, hdo⟩ := day_ok hg hM (hi_ok hg) hr
    have hnd : needD k M (hiC k) d = needL k r (hiC k d) := by rw [needD, List.getD, hr]; rfl
    obtain ⟨c1, c2, c3⟩ := clrTo_ok (k := k) (day := (d : Int)) (w := (ordD k M d).2.2) h1 k.batches.length
    have c4 := clrTo_len k (d : Int) (ordD k M d).1 (ordD k M d).2.2 k.batches.length
    have hb := hg.batches
    obtain ⟨o1, o2, o3, o4, _⟩ := ordG_ok (k := k) (o := ordK k) (needs := needD k M (hiC k) d) (a := ((clrTo k (d : Int) (ordD k M d).1 (ordD k M d).2.2 k.batches.length).1, (ordD k M d).2.1)) (B := 2 ^ 40 * d) c1 h3 (by omega) (by rw [hnd]; exact needL_ok hg hdo) k.allerg.length
    refine ⟨o1, ?_, ?_, ?_, ?_, ?_⟩
    · rw [ordD]; dsimp only; rw [o2]; dsimp only; rw [c4, h2]
    · rw [ordD]; dsimp only
      have e : (2 : Int) ^ 40 * (d : Int) + 2 ^ 40 = 2 ^ 40 * ((d + 1 : Nat) : Int) := by push_cast; omega
      rw [← e]
      exact o3
    · rw [ordD]; dsimp only; rw [o4]; exact h4
    · rw [ordD]; dsimp only; omega
    · rw [ordD]; dsimp only; push_cast; omega
theorem zf88 (k : Kitchen) (day group : Nat) (hd : day < k.days.length) (hg : group < (k.days.getD day []).length) : Fn Tryz.prog 88 [.i (group : Int), .ptr k.cells 0, .ptr [.i (day : Int)] 0] (.i (hiC k day group)) := by
  have h := zf89 k day group hd hg
  unfold hiC
  rw [Kitchen.cells] at h ⊢
  refine fn_walk 9 Tryz.call88 Tryz.func88 rfl (by decide) fun J => ?_
  simp (maxSteps := 4000000) only [go_sem, St.start, Tryz.ntmps88, Tryz.results88]
  repeat (first | refine walkL_seq ?_ | refine walkL_skip ?_ | refine walkL_block ?_ | (refine walkL_region fun K hK => ?_; simp (maxSteps := 4000000) only [go_sem]; (repeat (first | (refine ⟨_, .lent (hf := h) (hd := rfl) (hr := rfl), ?_⟩; simp (maxSteps := 4000000) only [go_sem]) | (refine ⟨_, .given (hf := h) (hd := rfl) (ha := rfl), ?_⟩; simp (maxSteps := 4000000) only [go_sem]))); refine hK _ ?_; clear hK K) | refine walkL_nil ?_ | refine walkL_ret ?_ | refine walkL_exit ?_ | refine blockA_here ?_ | refine blockA_other rfl ?_ | refine blockA_ret ?_ | refine blockA_normal ?_ | refine thenA_ret ?_ | refine thenA_exit ?_ | refine thenA_normal ?_)
  simp (maxSteps := 4000000) only [go_sem]
end Go.Ab
namespace Go.Ab
open Go.RowKit Go.Proofs
set_option maxHeartbeats 16000000
set_option maxRecDepth 20000
attribute [local irreducible] WalkL Walk
theorem open_zero {k : Kitchen} {M : List (List Int)} (h0 : openK k M = 0) : KitGood k ∧ shapedB (menuB k) M k.days = true := by
  unfold openK at h0
  split at h0
  · rename_i hz
    split at h0
    · exact ⟨kit_good (kitE_zero.1 hz), by assumption⟩
    · cases h0
  · contradiction
theorem zf42 (k : Kitchen) (M : List (List Int)) (hs : KitSmall k) (hM : M.length < 2 ^ 30) (hMr : ∀ r ∈ M, r.length < 2 ^ 30) :
    Fn Tryz.prog 42 [.agg k.cells, .sl (listRows M)] (.tup (if openK k M = 0 then [.sl (intRows (orderK k M)), .i 0] else [.sl [], .i (openK k M)])) := by
  have h84 := zf84 k M hs hM hMr
  rw [Kitchen.cells] at h84
  by_cases h0 : openK k M = 0
  · rw [if_pos h0]
    obtain ⟨hg, hsh⟩ := open_zero h0
    rw [h0] at h84
    have h85 := zf85 k hg.batches
    change FnG Tryz.prog 85 [] [] (List.map AV.d [.agg k.cells]) _ _ at h85
    have hbl := hg.batches
    have hdl := hg.days
    have hMl := shaped_len hsh
    have hgo := hg.goods
    have hmk : (k.allerg.length : Int) ≤ 1099511627776 := by omega
    have hrep := intRows_rep k.allerg.length
    have hcl : k.cells.length = 4 := rfl
    have hct : k.cells.take 4 = k.cells := rfl
    have hOK := fun d hd => ordD_ok hg hsh d hd
    rw [orderK]
    obtain ⟨F, hF⟩ : ∃ F, F = ordD k M := ⟨_, rfl⟩
    have hF0 : F 0 = (amtK k, List.replicate k.allerg.length 0, 0) := by rw [hF]; rfl
    have hFs : ∀ d, F (d + 1) = ((ordG k (ordK k) (needD k M (hiC k) d) ((clrTo k (d : Int) (F d).1 (F d).2.2 k.batches.length).1, (F d).2.1) k.allerg.length).1,
      (ordG k (ordK k) (needD k M (hiC k) d) ((clrTo k (d : Int) (F d).1 (F d).2.2 k.batches.length).1, (F d).2.1) k.allerg.length).2,
      (clrTo k (d : Int) (F d).1 (F d).2.2 k.batches.length).2) := fun d => by rw [hF]; rfl
    rw [← hF] at hOK ⊢
    refine fn_walk 102 Tryz.call42 Tryz.func42 rfl (by decide) fun J => ?_
    simp (maxSteps := 4000000) only [go_sem, St.start, Tryz.ntmps42, Tryz.results42, Kitchen.cells]
    repeat (first | refine walkL_true rfl ?_ | refine walkL_false rfl ?_ | refine walkL_seq ?_ | refine walkL_skip ?_ | refine walkL_block ?_ | (refine walkL_region fun K hK => ?_; simp (maxSteps := 4000000) only [go_sem]; (repeat (first | (refine ⟨_, .lent (hf := h84) (hd := rfl) (hr := rfl), ?_⟩; simp (maxSteps := 4000000) only [go_sem]) | (refine ⟨_, .given (hf := h84) (hd := rfl) (ha := rfl), ?_⟩; simp (maxSteps := 4000000) only [go_sem]))); refine hK _ ?_; clear hK K) | refine walkL_nil ?_ | refine walkL_ret ?_ | refine walkL_exit ?_ | refine blockA_here ?_ | refine blockA_other rfl ?_ | refine blockA_ret ?_ | refine blockA_normal ?_ | refine thenA_ret ?_ | refine thenA_exit ?_ | refine thenA_normal ?_)
    refine walkL_release [2, 6] ?_
    simp (maxSteps := 4000000) only [go_sem]
    refine walkL_region fun K hK => ?_
    simp (maxSteps := 4000000) only [go_sem, hmk, hrep]
    refine hK _ ?_
    clear hK K
    repeat (first | refine walkL_seq ?_ | refine walkL_skip ?_ | refine walkL_block ?_ | refine walkL_nil ?_ | refine blockA_normal ?_ | refine thenA_normal ?_)
    refine walkL_region fun K hK => ?_
    simp (maxSteps := 4000000) only [go_sem, hcl, hct]
    refine ⟨_, .made (news := [0, 1, 3]) (hf := h85) (hd := rfl) (hn := by decide) (hl := rfl) (hnew := rfl) (hx := rfl), ?_⟩
    simp (maxSteps := 4000000) only [go_sem, List.map_cons, List.map_nil, lardRow]
    refine hK _ ?_
    clear hK K
    repeat (first | refine walkL_seq ?_ | refine walkL_skip ?_ | refine walkL_block ?_ | (refine walkL_region fun K hK => ?_; simp (maxSteps := 4000000) only [go_sem, listRows_len]; refine hK _ ?_; clear hK K) | refine walkL_nil ?_ | refine walkL_ret ?_ | refine walkL_exit ?_ | refine blockA_here ?_ | refine blockA_other rfl ?_ | refine blockA_ret ?_ | refine blockA_normal ?_ | refine thenA_ret ?_ | refine thenA_exit ?_ | refine thenA_normal ?_)
    refine walkL_loopS (fun (d : Nat) => [(34, .d (.i (d : Int)))]) (fun d => [(0, some (.box (lardRow k (.own 1) (.own 3) (F d).2.2))), (1, some (.arr 3 1 (intRows (F d).1))), (29, some (.arr 3 1 (intRows (F d).2.1)))]) (fun d => d ≤ M.length) (fun d => M.length - d) 0 ?_ (Nat.zero_le _) ?_
    · rw [hF0]
      simp (maxSteps := 4000000) only [go_sem, lardRow]
      refine weak_of [] ?_ ?_ rfl rfl <;> simp [lessT, lessM, lessB, AV.less]
      all_goals first | done | rfl | exact ⟨rfl, rfl⟩ | trace_state
    · intro d hd
      obtain ⟨a1, a2, a3, a4, a5, a6⟩ := hOK d hd
      have hnx := hFs d
      obtain ⟨⟨l, b, w⟩, hFd⟩ : ∃ x, F d = x := ⟨_, rfl⟩
      rw [hFd] at a1 a2 a3 a4 a5 a6 hnx ⊢
      dsimp only at a1 a2 a3 a4 a5 a6 hnx ⊢
      have hw2 : w ≤ 2 ^ 40 := by omega
      simp (maxSteps := 4000000) only [go_sem, lardRow]
      repeat (first | refine walkL_seq ?_ | refine walkL_skip ?_ | refine walkL_block ?_ | (refine walkL_region fun K hK => ?_; simp (maxSteps := 4000000) only [go_sem]; refine hK _ ?_; clear hK K) | refine walkL_nil ?_ | refine walkL_ret ?_ | refine walkL_exit ?_ | refine blockA_here ?_ | refine blockA_other rfl ?_ | refine blockA_ret ?_ | refine blockA_normal ?_ | refine thenA_ret ?_ | refine thenA_exit ?_ | refine thenA_normal ?_)
      refine walkL_cond rfl (fun hb => ?_) (fun hb => ?_)
      · have hlt : d < M.length := by simpa using hb
        have hw : IntKind.i64.wrap ((d : Int) + 1) = ((d + 1 : Nat) : Int) := by rw [wr_small (by omega)]; simp
        obtain ⟨r, hr⟩ : ∃ r, M[d]? = some r := ⟨_, List.getElem?_eq_getElem hlt⟩
        obtain ⟨hdd, hrl, hday⟩ := day_ok hg hsh (hi_ok hg) hr
        change DayOk k r (hiC k d) at hday
        have g1 := listRows_at hr
        have hni : ¬ ((d : Int) < 0) := by omega
        have hnd : needD k M (hiC k) d = needL k r (hiC k d) := by rw [needD, List.getD, hr]; rfl
        rw [hnd] at hnx
        have h86 := zf86 k hbl (d : Int) l (ordK k) w a2 a1 ⟨a5, hw2⟩
        obtain ⟨c1, c2, c3⟩ := clrTo_ok (k := k) (day := (d : Int)) (w := w) a1 k.batches.length
        have c4 := clrTo_len k (d : Int) l w k.batches.length
        obtain ⟨⟨C, v⟩, hC⟩ : ∃ a, a = clrTo k (d : Int) l w k.batches.length := ⟨_, rfl⟩
        rw [← hC] at h86 c1 c2 c3 c4 hnx
        dsimp only at c1 c2 c3 c4 hnx
        have h87 := (zf87 k hg r (hiC k d) 88 [.ptr k.cells 0, .ptr [.i (d : Int)] 0] hday (fun j hj => zf88 k d j hdd (by omega))).deep
        simp only [lardRow] at h86
        have hNo := needL_ok hg hday
        have hNl := needL_len k r (hiC k d)
        obtain ⟨N, hN⟩ : ∃ N, N = needL k r (hiC k d) := ⟨_, rfl⟩
        rw [← hN] at h87 hnx hNo hNl
        repeat (first | refine walkL_seq ?_ | refine walkL_skip ?_ | refine walkL_block ?_ | refine walkL_nil ?_ | refine blockA_normal ?_ | refine thenA_normal ?_)
        refine walkL_region fun K hK => ?_
        simp (maxSteps := 4000000) only [go_sem, g1, hni]
        refine hK _ ?_
        clear hK K
        refine walkL_release [10] ?_
        simp (maxSteps := 4000000) only [go_sem]
        repeat (first | refine walkL_seq ?_ | refine walkL_skip ?_ | refine walkL_block ?_ | refine walkL_nil ?_ | refine blockA_normal ?_ | refine thenA_normal ?_)
        refine walkL_region fun K hK => ?_
        simp (maxSteps := 4000000) only [go_sem]
        refine ⟨_, .own (ns := [0, 1, 3]) (news := []) (bads := [1, 3]) (rd := []) (hf := h86) (hnd := by decide) (hl0 := rfl) (hl1 := rfl) (hm := by repeat (first | exact trivial | refine And.intro ?_ ?_ | rfl)) (hnew := rfl) (hla := rfl) (ha := argG_all (by repeat (first | exact trivial | refine And.intro ?_ ?_ | exact argG_ren rfl | exact argG_deep rfl rfl))) (hrd := rfl) (hsh := shutG_nil _) (hb := rfl) (hfl := .inl rfl), ?_⟩
        simp (maxSteps := 4000000) only [go_sem, List.map_cons, List.map_nil]
        refine hK _ ?_
        clear hK K
        repeat (first | refine walkL_seq ?_ | refine walkL_skip ?_ | refine walkL_block ?_ | refine walkL_nil ?_ | refine blockA_normal ?_ | refine thenA_normal ?_)
        refine walkL_region fun K hK => ?_
        simp (maxSteps := 4000000) only [go_sem, hcl, hct]
        refine ⟨_, .given (hf := h87) (hd := rfl) (ha := rfl), ?_⟩
        simp (maxSteps := 4000000) only [go_sem, intRows_len, hNl]
        refine hK _ ?_
        clear hK K
        repeat (first | refine walkL_seq ?_ | refine walkL_skip ?_ | refine walkL_block ?_ | (refine walkL_region fun K hK => ?_; simp (maxSteps := 4000000) only [go_sem]; refine hK _ ?_; clear hK K) | refine walkL_nil ?_ | refine walkL_ret ?_ | refine walkL_exit ?_ | refine blockA_here ?_ | refine blockA_other rfl ?_ | refine blockA_ret ?_ | refine blockA_normal ?_ | refine thenA_ret ?_ | refine thenA_exit ?_ | refine thenA_normal ?_)
        obtain ⟨H, hH⟩ : ∃ H, H = ordG k (ordK k) N (C, b) := ⟨_, rfl⟩
        have hH0 : H 0 = (C, b) := by rw [hH]; rfl
        have hHs : ∀ g, H (g + 1) = ((takeG k (ordK k) g (H g).1 (getI N (g : Int))).1, (H g).2.set g (getI (H g).2 (g : Int) + (takeG k (ordK k) g (H g).1 (getI N (g : Int))).2)) := fun g => by rw [hH]; rfl
        have hHo := fun g => ordG_ok (k := k) (o := ordK k) (needs := N) (a := (C, b)) (B := 2 ^ 40 * d) c1 a3 (by omega) hNo g
        rw [← hH] at hHo hnx
        dsimp only at hHo
        have hol := ordK_len k
        have hom : ∀ x ∈ ordK k, x < k.batches.length := fun x hx => ordK_mem hx
        obtain ⟨o, ho⟩ : ∃ o, o = ordK k := ⟨_, rfl⟩
        rw [← ho] at hHs hol hom
        refine walkL_loopS (fun (g : Nat) => [(47, .d (.i (g : Int)))]) (fun g => [(1, some (.arr 3 1 (intRows (H g).1))), (29, some (.arr 3 1 (intRows (H g).2)))]) (fun g => g ≤ k.allerg.length) (fun g => k.allerg.length - g) 0 ?_ (Nat.zero_le _) ?_
        · rw [hH0]
          simp (maxSteps := 4000000) only [go_sem]
          refine weak_of [] ?_ ?_ rfl rfl <;> simp [lessT, lessM, lessB, AV.less]
          all_goals first | done | rfl | trace_state
        · intro g hg2
          obtain ⟨b1, b2, b3, b4, b5⟩ := hHo g
          have hnx2 := hHs g
          obtain ⟨⟨cur, B⟩, hHg⟩ : ∃ x, H g = x := ⟨_, rfl⟩
          rw [hHg] at b1 b2 b3 b4 b5 hnx2 ⊢
          dsimp only at b1 b2 b3 b4 b5 hnx2 ⊢
          simp (maxSteps := 4000000) only [go_sem]
          repeat (first | refine walkL_seq ?_ | refine walkL_skip ?_ | refine walkL_block ?_ | (refine walkL_region fun K hK => ?_; simp (maxSteps := 4000000) only [go_sem]; refine hK _ ?_; clear hK K) | refine walkL_nil ?_ | refine walkL_ret ?_ | refine walkL_exit ?_ | refine blockA_here ?_ | refine blockA_other rfl ?_ | refine blockA_ret ?_ | refine blockA_normal ?_ | refine thenA_ret ?_ | refine thenA_exit ?_ | refine thenA_normal ?_)
          refine walkL_cond rfl (fun hb => ?_) (fun hb => ?_)
          · have hltg : g < k.allerg.length := by simpa using hb
            have hwg : IntKind.i64.wrap ((g : Int) + 1) = ((g + 1 : Nat) : Int) := by rw [wr_small (by omega)]; simp
            have gn := intRows_getI (l := N) (i := g) (by omega)
            have hnr : 0 ≤ getI N (g : Int) ∧ getI N (g : Int) ≤ 2 ^ 40 := getI_in hNo (by decide) _
            obtain ⟨n, hn⟩ : ∃ n, n = getI N (g : Int) := ⟨_, rfl⟩
            rw [← hn] at gn hnx2 hnr
            have hng : ¬ ((g : Int) < 0) := by omega
            have hlN : g < N.length := by omega
            repeat (first | refine walkL_seq ?_ | refine walkL_skip ?_ | refine walkL_block ?_ | (refine walkL_region fun K hK => ?_; simp (maxSteps := 4000000) only [go_sem, gn, hng, hlN]; refine hK _ ?_; clear hK K) | refine walkL_nil ?_ | refine walkL_ret ?_ | refine walkL_exit ?_ | refine blockA_here ?_ | refine blockA_other rfl ?_ | refine blockA_ret ?_ | refine blockA_normal ?_ | refine thenA_ret ?_ | refine thenA_exit ?_ | refine thenA_normal ?_)
            rw [← ho]
            refine walkL_loopS (fun (q : Nat × List Int × Int) => [(57, .d (.i (q.1 : Int))), (13, .d (.i q.2.2))]) (fun q => [(1, some (.arr 3 1 (intRows q.2.1)))]) (fun q => q.1 ≤ o.length ∧ (q.2.1, q.2.2) = (o.take q.1).foldl (takeStep k g) (cur, n) ∧ AmtOk q.2.1 ∧ q.2.1.length = cur.length ∧ 0 ≤ q.2.2 ∧ q.2.2 ≤ 2 ^ 40) (fun q => o.length - q.1) (0, cur, n) ?_ ⟨Nat.zero_le _, rfl, b1, rfl, hnr.1, hnr.2⟩ ?_
            · simp (maxSteps := 4000000) only [go_sem]
              refine weak_of [] ?_ ?_ rfl rfl <;> simp [lessT, lessM, lessB, AV.less]
              all_goals first | done | rfl | trace_state
            · rintro ⟨j, A, m⟩ ⟨hj, hfold, hAo, hAl, hm0, hm1⟩
              dsimp only at hj hfold hAo hAl hm0 hm1
              simp (maxSteps := 4000000) only [go_sem]
              repeat (first | refine walkL_seq ?_ | refine walkL_skip ?_ | refine walkL_block ?_ | (refine walkL_region fun K hK => ?_; simp (maxSteps := 4000000) only [go_sem]; refine hK _ ?_; clear hK K) | refine walkL_nil ?_ | refine walkL_ret ?_ | refine walkL_exit ?_ | refine blockA_here ?_ | refine blockA_other rfl ?_ | refine blockA_ret ?_ | refine blockA_normal ?_ | refine thenA_ret ?_ | refine thenA_exit ?_ | refine thenA_normal ?_)
              refine walkL_cond rfl (fun hb => ?_) (fun hb => ?_)
              · have hltj : j < o.length := by simpa using hb
                have hwj : IntKind.i64.wrap ((j : Int) + 1) = ((j + 1 : Nat) : Int) := by rw [wr_small (by omega)]; simp
                have hnj : ¬ ((j : Int) < 0) := by omega
                obtain ⟨x, hx⟩ : ∃ x, o[j]? = some x := ⟨_, List.getElem?_eq_getElem hltj⟩
                have gx := natRows_at hltj
                rw [List.getD, hx, Option.getD_some] at gx
                have hxb := hom x (List.mem_of_getElem? hx)
                have gb := bat_at hxb
                rw [Batch.row] at gb
                have hnx3 : ¬ ((x : Int) < 0) := by omega
                have hxA : x < A.length := by omega
                have gA := intRows_getI hxA
                have hgA := hAo.get (x : Int)
                have hst : (o.take (j + 1)).foldl (takeStep k g) (cur, n) = takeStep k g (A, m) x := by rw [foldl_take_succ _ _ _ _ _ hx, ← hfold]
                have hso := takeStep_ok (k := k) (good := g) (i := x) (a := (A, m)) hAo hm0
                by_cases hq : (batAt k x).good = (g : Int)
                · have e : ((batAt k x).good == (g : Int)) = true := by simp [hq]
                  have e0 : takeStep k g (A, m) x = (A.set x (getI A (x : Int) - min m (getI A (x : Int))), m - min m (getI A (x : Int))) := by rw [takeStep, if_pos hq]
                  rw [e0] at hst hso
                  dsimp only at hso
                  have e1 : IntKind.i64.wrap (getI A (x : Int) - min m (getI A (x : Int))) = getI A (x : Int) - min m (getI A (x : Int)) := wr_small (by omega)
                  have e2 : IntKind.i64.wrap (m - min m (getI A (x : Int))) = m - min m (getI A (x : Int)) := wr_small (by omega)
                  have su := intRows_set A x (getI A (x : Int) - min m (getI A (x : Int)))
                  obtain ⟨v2, hv⟩ : ∃ v2, v2 = getI A (x : Int) := ⟨_, rfl⟩
                  rw [← hv] at gA e1 e2 su hst hso hgA
                  obtain ⟨t, ht⟩ : ∃ t, t = min m v2 := ⟨_, rfl⟩
                  rw [← ht] at e1 e2 su hst hso
                  have ht' : min m v2 = t := ht.symm
                  repeat (first | refine walkL_true rfl ?_ | refine walkL_false rfl ?_ | refine walkL_seq ?_ | refine walkL_skip ?_ | refine walkL_block ?_ | (refine walkL_region fun K hK => ?_; simp (maxSteps := 4000000) only [go_sem, gx, hnj, hltj, gb, hnx3, e]; refine hK _ ?_; clear hK K) | refine walkL_nil ?_ | refine walkL_ret ?_ | refine walkL_exit ?_ | refine blockA_here ?_ | refine blockA_other rfl ?_ | refine blockA_ret ?_ | refine blockA_normal ?_ | refine thenA_ret ?_ | refine thenA_exit ?_ | refine thenA_normal ?_)
                  repeat (first | refine walkL_seq ?_ | refine walkL_skip ?_ | refine walkL_block ?_ | (refine walkL_region fun K hK => ?_; simp (maxSteps := 4000000) only [go_sem, gx, hnj, hltj, gb, hnx3, e, gA, hxA, ht', e1, e2, su, hwj]; refine hK _ ?_; clear hK K) | refine walkL_nil ?_ | refine walkL_ret ?_ | refine walkL_exit ?_ | refine blockA_here ?_ | refine blockA_other rfl ?_ | refine blockA_ret ?_ | refine blockA_normal ?_ | refine thenA_ret ?_ | refine thenA_exit ?_ | refine thenA_normal ?_)
                  refine ⟨rfl, (j + 1, A.set x (v2 - t), m - t), ?_, ⟨hltj, hst.symm, hso.1, by rw [hso.2.1]; exact hAl, hso.2.2.1, by dsimp only; omega⟩, by dsimp only; omega⟩
                  refine weak_of [] ?_ ?_ rfl rfl <;> simp [lessT, lessM, lessB, AV.less]
                  all_goals first | done | rfl | trace_state
                · have e : ((batAt k x).good == (g : Int)) = false := by simpa using hq
                  have e0 : takeStep k g (A, m) x = (A, m) := by rw [takeStep, if_neg hq]
                  rw [e0] at hst
                  repeat (first | refine walkL_true rfl ?_ | refine walkL_false rfl ?_ | refine walkL_seq ?_ | refine walkL_skip ?_ | refine walkL_block ?_ | (refine walkL_region fun K hK => ?_; simp (maxSteps := 4000000) only [go_sem, gx, hnj, hltj, gb, hnx3, e, hwj]; refine hK _ ?_; clear hK K) | refine walkL_nil ?_ | refine walkL_ret ?_ | refine walkL_exit ?_ | refine blockA_here ?_ | refine blockA_other rfl ?_ | refine blockA_ret ?_ | refine blockA_normal ?_ | refine thenA_ret ?_ | refine thenA_exit ?_ | refine thenA_normal ?_)
                  refine ⟨rfl, (j + 1, A, m), ?_, ⟨hltj, hst.symm, hAo, hAl, hm0, hm1⟩, by dsimp only; omega⟩
                  refine weak_of [] ?_ ?_ rfl rfl <;> simp [lessT, lessM, lessB, AV.less]
                  all_goals first | done | rfl | trace_state
              · have he : j = o.length := by (have : ¬ j < o.length := by simpa using hb); omega
                subst he
                rw [List.take_length] at hfold
                have hGt : takeG k o g cur n = (A, m) := hfold.symm
                rw [hGt] at hnx2
                dsimp only at hnx2
                have hgB : g < B.length := by omega
                have gB := intRows_getI hgB
                have hBr : 0 ≤ getI B (g : Int) ∧ getI B (g : Int) ≤ 2 ^ 40 * d + 2 ^ 40 := getI_in b3 (by omega) _
                have eB : IntKind.i64.wrap (getI B (g : Int) + m) = getI B (g : Int) + m := wr_small (by omega)
                have suB := intRows_set B g (getI B (g : Int) + m)
                repeat (first | refine walkL_seq ?_ | refine walkL_skip ?_ | refine walkL_block ?_ | (refine walkL_region fun K hK => ?_; simp (maxSteps := 4000000) only [go_sem, gB, hgB, hng, eB, suB, hwg]; refine hK _ ?_; clear hK K) | refine walkL_nil ?_ | refine walkL_ret ?_ | refine walkL_exit ?_ | refine blockA_here ?_ | refine blockA_other rfl ?_ | refine blockA_ret ?_ | refine blockA_normal ?_ | refine thenA_ret ?_ | refine thenA_exit ?_ | refine thenA_normal ?_)
                refine ⟨rfl, g + 1, ?_, hltg, by omega⟩
                rw [hnx2]
                refine weak_of [] ?_ ?_ rfl rfl <;> simp [lessT, lessM, lessB, AV.less]
                all_goals first | done | rfl | trace_state
          · have he : g = k.allerg.length := by (have : ¬ g < k.allerg.length := by simpa using hb); omega
            subst he
            rw [hHg] at hnx
            dsimp only at hnx
            repeat (first | refine walkL_seq ?_ | refine walkL_skip ?_ | refine walkL_block ?_ | (refine walkL_region fun K hK => ?_; simp (maxSteps := 4000000) only [go_sem, hw]; refine hK _ ?_; clear hK K) | refine walkL_nil ?_ | refine walkL_ret ?_ | refine walkL_exit ?_ | refine blockA_here ?_ | refine blockA_other rfl ?_ | refine blockA_ret ?_ | refine blockA_normal ?_ | refine thenA_ret ?_ | refine thenA_exit ?_ | refine thenA_normal ?_)
            refine ⟨rfl, d + 1, ?_, hlt, by omega⟩
            rw [hnx]
            simp (maxSteps := 4000000) only [go_sem, lardRow]
            refine weak_of [] ?_ ?_ rfl rfl <;> simp [lessT, lessM, lessB, AV.less]
            all_goals first | done | rfl | exact ⟨rfl, rfl⟩ | trace_state
      · have he : d = M.length := by (have : ¬ d < M.length := by simpa using hb); omega
        subst he
        rw [hFd]
        repeat (first | refine walkL_seq ?_ | refine walkL_skip ?_ | refine walkL_block ?_ | (refine walkL_region fun K hK => ?_; simp (maxSteps := 4000000) only [go_sem]; refine hK _ ?_; clear hK K) | refine walkL_nil ?_ | refine walkL_ret ?_ | refine walkL_exit ?_ | refine blockA_here ?_ | refine blockA_other rfl ?_ | refine blockA_ret ?_ | refine blockA_normal ?_ | refine thenA_ret ?_ | refine thenA_exit ?_ | refine thenA_normal ?_)
        simp (maxSteps := 4000000) only [go_sem]
  · rw [if_neg h0]
    have hz : (openK k M != 0) = true := by simpa using h0
    obtain ⟨e, he⟩ : ∃ e, e = openK k M := ⟨_, rfl⟩
    rw [← he] at h84 hz ⊢
    refine fn_walk 102 Tryz.call42 Tryz.func42 rfl (by decide) fun J => ?_
    simp (maxSteps := 4000000) only [go_sem, St.start, Tryz.ntmps42, Tryz.results42, Kitchen.cells]
    repeat (first | refine walkL_true rfl ?_ | refine walkL_false rfl ?_ | refine walkL_seq ?_ | refine walkL_skip ?_ | refine walkL_block ?_ | (refine walkL_region fun K hK => ?_; simp (maxSteps := 4000000) only [go_sem, hz]; (repeat (first | (refine ⟨_, .lent (hf := h84) (hd := rfl) (hr := rfl), ?_⟩; simp (maxSteps := 4000000) only [go_sem, hz]) | (refine ⟨_, .given (hf := h84) (hd := rfl) (ha := rfl), ?_⟩; simp (maxSteps := 4000000) only [go_sem, hz]))); refine hK _ ?_; clear hK K) | refine walkL_nil ?_ | refine walkL_ret ?_ | refine walkL_exit ?_ | refine blockA_here ?_ | refine blockA_other rfl ?_ | refine blockA_ret ?_ | refine blockA_normal ?_ | refine thenA_ret ?_ | refine thenA_exit ?_ | refine thenA_normal ?_)
    simp (maxSteps := 4000000) only [go_sem]
end Go.Ab
namespace Go.Ab
open Go.RowKit Go.Proofs
set_option maxHeartbeats 8000000
set_option maxRecDepth 20000
attribute [local irreducible] WalkL Walk
def daysP (h : Int) : Int := IntKind.i64.wrap ((IntKind.i64.wrap (h + 23)).tdiv 24)
def enoughP (k : Kitchen) (M : List (List Int)) (s : Supply) (c n : Int) : Int × Bool × Int :=
  if openK k M = 0 then (if (nextP s c n).2.2 = 0 then (daysP (nextP s c n).1, decide (daysP (nextP s c n).1 ≤ (mostK k M : Int)), 0) else (0, false, (nextP s c n).2.2)) else (0, false, openK k M)
theorem zf46 (k : Kitchen) (M : List (List Int)) (s : Supply) (c n : Int) (hs : KitSmall k) (hM : M.length < 2 ^ 30) (hMr : ∀ r ∈ M, r.length < 2 ^ 30) (hss : SuppSmall s) :
    Fn Tryz.prog 46 [.agg k.cells, .sl (listRows M), .agg s.cells, .i c, .i n] (.tup [.i (enoughP k M s c n).1, .bool (enoughP k M s c n).2.1, .i (enoughP k M s c n).2.2]) := by
  have h45 := zf45 k M hs hM hMr
  have h26 := zf26 s c n hss
  unfold enoughP
  obtain ⟨hi, hhi⟩ : ∃ x, x = mostK k M := ⟨_, rfl⟩
  obtain ⟨lo, hlo⟩ : ∃ x, x = leastK k M := ⟨_, rfl⟩
  obtain ⟨⟨a, b, e⟩, hP⟩ : ∃ x, nextP s c n = x := ⟨_, rfl⟩
  rw [hP] at h26 ⊢
  rw [← hhi, ← hlo] at h45
  rw [← hhi]
  rw [Kitchen.cells] at h45 ⊢
  rw [Supply.cells] at h26 ⊢
  dsimp only at h26 ⊢
  by_cases h0 : openK k M = 0
  · rw [if_pos h0] at h45 ⊢
    by_cases h1 : e = 0
    · rw [if_pos h1]
      subst h1
      refine fn_walk 45 Tryz.call46 Tryz.func46 rfl (by decide) fun J => ?_
      simp (maxSteps := 4000000) only [go_sem, St.start, Tryz.ntmps46, Tryz.results46]
      repeat (first | refine walkL_true rfl ?_ | refine walkL_false rfl ?_ | refine walkL_seq ?_ | refine walkL_skip ?_ | refine walkL_block ?_ | (refine walkL_region fun K hK => ?_; simp (maxSteps := 4000000) only [go_sem]; (repeat (first | (refine ⟨_, .lent (hf := h45) (hd := rfl) (hr := rfl), ?_⟩; simp (maxSteps := 4000000) only [go_sem]) | (refine ⟨_, .lent (hf := h26) (hd := rfl) (hr := rfl), ?_⟩; simp (maxSteps := 4000000) only [go_sem]) | (refine ⟨_, .given (hf := h45) (hd := rfl) (ha := rfl), ?_⟩; simp (maxSteps := 4000000) only [go_sem]) | (refine ⟨_, .given (hf := h26) (hd := rfl) (ha := rfl), ?_⟩; simp (maxSteps := 4000000) only [go_sem]))); refine hK _ ?_; clear hK K) | refine walkL_nil ?_ | refine walkL_ret ?_ | refine walkL_exit ?_ | refine blockA_here ?_ | refine blockA_other rfl ?_ | refine blockA_ret ?_ | refine blockA_normal ?_ | refine thenA_ret ?_ | refine thenA_exit ?_ | refine thenA_normal ?_)
      simp (maxSteps := 4000000) only [go_sem, daysP]
      rfl
    · rw [if_neg h1]
      have hz : (e != 0) = true := by simpa using h1
      refine fn_walk 45 Tryz.call46 Tryz.func46 rfl (by decide) fun J => ?_
      simp (maxSteps := 4000000) only [go_sem, St.start, Tryz.ntmps46, Tryz.results46]
      repeat (first | refine walkL_true rfl ?_ | refine walkL_false rfl ?_ | refine walkL_seq ?_ | refine walkL_skip ?_ | refine walkL_block ?_ | (refine walkL_region fun K hK => ?_; simp (maxSteps := 4000000) only [go_sem, hz]; (repeat (first | (refine ⟨_, .lent (hf := h45) (hd := rfl) (hr := rfl), ?_⟩; simp (maxSteps := 4000000) only [go_sem, hz]) | (refine ⟨_, .lent (hf := h26) (hd := rfl) (hr := rfl), ?_⟩; simp (maxSteps := 4000000) only [go_sem, hz]) | (refine ⟨_, .given (hf := h45) (hd := rfl) (ha := rfl), ?_⟩; simp (maxSteps := 4000000) only [go_sem, hz]) | (refine ⟨_, .given (hf := h26) (hd := rfl) (ha := rfl), ?_⟩; simp (maxSteps := 4000000) only [go_sem, hz]))); refine hK _ ?_; clear hK K) | refine walkL_nil ?_ | refine walkL_ret ?_ | refine walkL_exit ?_ | refine blockA_here ?_ | refine blockA_other rfl ?_ | refine blockA_ret ?_ | refine blockA_normal ?_ | refine thenA_ret ?_ | refine thenA_exit ?_ | refine thenA_normal ?_)
      simp (maxSteps := 4000000) only [go_sem]
  · rw [if_neg h0] at h45 ⊢
    have hz : (openK k M != 0) = true := by simpa using h0
    obtain ⟨e2, he2⟩ : ∃ e, e = openK k M := ⟨_, rfl⟩
    rw [← he2] at h45 hz ⊢
    refine fn_walk 45 Tryz.call46 Tryz.func46 rfl (by decide) fun J => ?_
    simp (maxSteps := 4000000) only [go_sem, St.start, Tryz.ntmps46, Tryz.results46]
    repeat (first | refine walkL_true rfl ?_ | refine walkL_false rfl ?_ | refine walkL_seq ?_ | refine walkL_skip ?_ | refine walkL_block ?_ | (refine walkL_region fun K hK => ?_; simp (maxSteps := 4000000) only [go_sem, hz]; (repeat (first | (refine ⟨_, .lent (hf := h45) (hd := rfl) (hr := rfl), ?_⟩; simp (maxSteps := 4000000) only [go_sem, hz]) | (refine ⟨_, .lent (hf := h26) (hd := rfl) (hr := rfl), ?_⟩; simp (maxSteps := 4000000) only [go_sem, hz]) | (refine ⟨_, .given (hf := h45) (hd := rfl) (ha := rfl), ?_⟩; simp (maxSteps := 4000000) only [go_sem, hz]) | (refine ⟨_, .given (hf := h26) (hd := rfl) (ha := rfl), ?_⟩; simp (maxSteps := 4000000) only [go_sem, hz]))); refine hK _ ?_; clear hK K) | refine walkL_nil ?_ | refine walkL_ret ?_ | refine walkL_exit ?_ | refine blockA_here ?_ | refine blockA_other rfl ?_ | refine blockA_ret ?_ | refine blockA_normal ?_ | refine thenA_ret ?_ | refine thenA_exit ?_ | refine thenA_normal ?_)
    simp (maxSteps := 4000000) only [go_sem]
theorem zf134 (a b : Int) : Fn Tryz.prog 134 [.i a, .i b] (.agg [.i a, .i b]) := by
  refine fn_walk 8 Tryz.call134 Tryz.func134 rfl (by decide) fun J => ?_
  simp (maxSteps := 4000000) only [go_sem, St.start, Tryz.ntmps134, Tryz.results134]
  repeat (first | refine walkL_seq ?_ | refine walkL_skip ?_ | refine walkL_block ?_ | (refine walkL_region fun K hK => ?_; simp (maxSteps := 4000000) only [go_sem]; refine hK _ ?_; clear hK K) | refine walkL_nil ?_ | refine walkL_ret ?_ | refine walkL_exit ?_ | refine blockA_here ?_ | refine blockA_other rfl ?_ | refine blockA_ret ?_ | refine blockA_normal ?_ | refine thenA_ret ?_ | refine thenA_exit ?_ | refine thenA_normal ?_)
  simp (maxSteps := 4000000) only [go_sem]
def exK : Kitchen := ⟨[1, 0], [⟨0, 1000, 1⟩, ⟨0, 500, 3⟩, ⟨1, 2000, 2⟩], [⟨[200, 0]⟩, ⟨[0, 300]⟩], List.replicate 3 [⟨0, ⟨2, 3⟩⟩, ⟨1, ⟨1, 1⟩⟩]⟩
def exM : List (List Int) := [[0, 1], [0, 1], [0, 1]]
theorem zf83 : Fn Tryz.prog 83 [] (.tup [.agg exK.cells, .sl (listRows exM)]) := by
  have h1 := zf134 2 3
  have h2 := zf134 1 1
  refine fn_walk 27 Tryz.call83 Tryz.func83 rfl (by decide) fun J => ?_
  simp (maxSteps := 4000000) only [go_sem, St.start, Tryz.ntmps83, Tryz.results83]
  repeat (first | refine walkL_seq ?_ | refine walkL_skip ?_ | refine walkL_block ?_ | (refine walkL_region fun K hK => ?_; simp (maxSteps := 4000000) only [go_sem]; (repeat (first | (refine ⟨_, .lent (hf := h1) (hd := rfl) (hr := rfl), ?_⟩; simp (maxSteps := 4000000) only [go_sem]) | (refine ⟨_, .lent (hf := h2) (hd := rfl) (hr := rfl), ?_⟩; simp (maxSteps := 4000000) only [go_sem]) | (refine ⟨_, .given (hf := h1) (hd := rfl) (ha := rfl), ?_⟩; simp (maxSteps := 4000000) only [go_sem]) | (refine ⟨_, .given (hf := h2) (hd := rfl) (ha := rfl), ?_⟩; simp (maxSteps := 4000000) only [go_sem]))); refine hK _ ?_; clear hK K) | refine walkL_nil ?_ | refine walkL_ret ?_ | refine walkL_exit ?_ | refine blockA_here ?_ | refine blockA_other rfl ?_ | refine blockA_ret ?_ | refine blockA_normal ?_ | refine thenA_ret ?_ | refine thenA_exit ?_ | refine thenA_normal ?_)
  simp (maxSteps := 4000000) only [go_sem]
  rfl
theorem exK_small : KitSmall exK := ⟨by decide, by decide, by decide, by intro l hl; simp [exK] at hl; rcases hl with rfl | rfl <;> decide, by decide, by intro l hl; simp [exK] at hl; subst hl; decide⟩
theorem exK_open : openK exK exM = 0 := by decide +kernel
theorem exK_order : orderK exK exM = [300, 0] := by decide +kernel
theorem exK_most : mostK exK exM = 2 ∧ leastK exK exM = 3 := by decide +kernel
theorem zf41 : Fn Tryz.prog 41 [] (.bool true) := by
  have h83 := zf83
  have h42 := zf42 exK exM exK_small (by decide) (by intro r hr; simp [exM] at hr; subst hr; decide)
  have h45 := zf45 exK exM exK_small (by decide) (by intro r hr; simp [exM] at hr; subst hr; decide)
  rw [exK_open, if_pos rfl] at h42 h45
  rw [exK_order] at h42
  rw [exK_most.1, exK_most.2] at h45
  rw [Kitchen.cells] at h42 h45 h83
  obtain ⟨X, hX⟩ : ∃ X, X = listRows exM := ⟨_, rfl⟩
  obtain ⟨A, hA⟩ : ∃ X, X = intRows exK.allerg := ⟨_, rfl⟩
  obtain ⟨B, hB⟩ : ∃ X, X = batRows exK.batches := ⟨_, rfl⟩
  obtain ⟨C, hC⟩ : ∃ X, X = dishRows exK.dishes := ⟨_, rfl⟩
  obtain ⟨D, hD⟩ : ∃ X, X = dayRows exK.days := ⟨_, rfl⟩
  rw [← hX, ← hA, ← hB, ← hC, ← hD] at h42 h45 h83
  have hi : intRows [300, 0] = [[.i 300], [.i 0]] := rfl
  rw [hi] at h42
  refine fn_walk 50 Tryz.call41 Tryz.func41 rfl (by decide) fun J => ?_
  simp (maxSteps := 4000000) only [go_sem, St.start, Tryz.ntmps41, Tryz.results41]
  repeat (first | refine walkL_true rfl ?_ | refine walkL_false rfl ?_ | refine walkL_seq ?_ | refine walkL_skip ?_ | refine walkL_block ?_ | (refine walkL_region fun K hK => ?_; simp (maxSteps := 4000000) only [go_sem]; (repeat (first | (refine ⟨_, .lent (hf := h83) (hd := rfl) (hr := rfl), ?_⟩; simp (maxSteps := 4000000) only [go_sem]) | (refine ⟨_, .lent (hf := h42) (hd := rfl) (hr := rfl), ?_⟩; simp (maxSteps := 4000000) only [go_sem]) | (refine ⟨_, .lent (hf := h45) (hd := rfl) (hr := rfl), ?_⟩; simp (maxSteps := 4000000) only [go_sem]) | (refine ⟨_, .given (hf := h83) (hd := rfl) (ha := rfl), ?_⟩; simp (maxSteps := 4000000) only [go_sem]) | (refine ⟨_, .given (hf := h42) (hd := rfl) (ha := rfl), ?_⟩; simp (maxSteps := 4000000) only [go_sem]) | (refine ⟨_, .given (hf := h45) (hd := rfl) (ha := rfl), ?_⟩; simp (maxSteps := 4000000) only [go_sem]))); refine hK _ ?_; clear hK K) | refine walkL_nil ?_ | refine walkL_ret ?_ | refine walkL_exit ?_ | refine blockA_here ?_ | refine blockA_other rfl ?_ | refine blockA_ret ?_ | refine blockA_normal ?_ | refine thenA_ret ?_ | refine thenA_exit ?_ | refine thenA_normal ?_)
  simp (maxSteps := 4000000) only [go_sem]
end Go.Ab
namespace Go.Ab
open Go.RowKit Go.Proofs
set_option maxHeartbeats 8000000
set_option maxRecDepth 20000
attribute [local irreducible] WalkL Walk
theorem zf91 (n lo hi : Int) : Fn Tryz.prog 91 [.i n, .i lo, .i hi] (.bool (withinB n lo hi)) := by
  unfold withinB
  refine fn_walk 15 Tryz.call91 Tryz.func91 rfl (by decide) fun J => ?_
  simp (maxSteps := 4000000) only [go_sem, St.start, Tryz.ntmps91, Tryz.results91]
  cases q : decide (lo ≤ n)
  · repeat (first | refine walkL_seq ?_ | refine walkL_skip ?_ | refine walkL_block ?_ | (refine walkL_region fun K hK => ?_; simp (maxSteps := 4000000) only [go_sem, q]; refine hK _ ?_; clear hK K) | refine walkL_nil ?_ | refine walkL_ret ?_ | refine walkL_exit ?_ | refine blockA_here ?_ | refine blockA_other rfl ?_ | refine blockA_ret ?_ | refine blockA_normal ?_ | refine thenA_ret ?_ | refine thenA_exit ?_ | refine thenA_normal ?_)
    simp (maxSteps := 4000000) only [go_sem, Bool.false_and]
  · repeat (first | refine walkL_seq ?_ | refine walkL_skip ?_ | refine walkL_block ?_ | (refine walkL_region fun K hK => ?_; simp (maxSteps := 4000000) only [go_sem, q]; refine hK _ ?_; clear hK K) | refine walkL_nil ?_ | refine walkL_ret ?_ | refine walkL_exit ?_ | refine blockA_here ?_ | refine blockA_other rfl ?_ | refine blockA_ret ?_ | refine blockA_normal ?_ | refine thenA_ret ?_ | refine thenA_exit ?_ | refine thenA_normal ?_)
    simp (maxSteps := 4000000) only [go_sem, Bool.true_and]
theorem zf92 (k : Kitchen) (b : Batch) (hg : k.allerg.length < 2 ^ 30) : Fn Tryz.prog 92 [.agg k.cells, .agg b.row] (.bool (batchB k.allerg.length b)) := by
  have h1 := zf91 b.good 0 ((k.allerg.length : Int) - 1)
  have h2 := zf91 b.amount 0 1000000
  have h3 := zf91 b.last 0 30
  have w : IntKind.i64.wrap ((k.allerg.length : Int) - 1) = (k.allerg.length : Int) - 1 := wr_small (by omega)
  unfold batchB
  obtain ⟨b1, e1⟩ : ∃ x, x = withinB b.good 0 ((k.allerg.length : Int) - 1) := ⟨_, rfl⟩
  obtain ⟨b2, e2⟩ : ∃ x, x = withinB b.amount 0 1000000 := ⟨_, rfl⟩
  obtain ⟨b3, e3⟩ : ∃ x, x = withinB b.last 0 30 := ⟨_, rfl⟩
  rw [← e1] at h1 ⊢
  rw [← e2] at h2 ⊢
  rw [← e3] at h3 ⊢
  refine fn_walk 22 Tryz.call92 Tryz.func92 rfl (by decide) fun J => ?_
  simp (maxSteps := 4000000) only [go_sem, St.start, Tryz.ntmps92, Tryz.results92, Batch.row, Kitchen.cells]
  cases b1 <;> cases b2
  all_goals
    repeat (first | refine walkL_seq ?_ | refine walkL_skip ?_ | refine walkL_block ?_ | (refine walkL_region fun K hK => ?_; simp (maxSteps := 4000000) only [go_sem, w]; (repeat (first | (refine ⟨_, .lent (hf := h1) (hd := rfl) (hr := rfl), ?_⟩; simp (maxSteps := 4000000) only [go_sem, w]) | (refine ⟨_, .lent (hf := h2) (hd := rfl) (hr := rfl), ?_⟩; simp (maxSteps := 4000000) only [go_sem, w]) | (refine ⟨_, .lent (hf := h3) (hd := rfl) (hr := rfl), ?_⟩; simp (maxSteps := 4000000) only [go_sem, w]) | (refine ⟨_, .given (hf := h1) (hd := rfl) (ha := rfl), ?_⟩; simp (maxSteps := 4000000) only [go_sem, w]) | (refine ⟨_, .given (hf := h2) (hd := rfl) (ha := rfl), ?_⟩; simp (maxSteps := 4000000) only [go_sem, w]) | (refine ⟨_, .given (hf := h3) (hd := rfl) (ha := rfl), ?_⟩; simp (maxSteps := 4000000) only [go_sem, w]))); refine hK _ ?_; clear hK K) | refine walkL_nil ?_ | refine walkL_ret ?_ | refine walkL_exit ?_ | refine blockA_here ?_ | refine blockA_other rfl ?_ | refine blockA_ret ?_ | refine blockA_normal ?_ | refine thenA_ret ?_ | refine thenA_exit ?_ | refine thenA_normal ?_)
    simp (maxSteps := 4000000) only [go_sem, Bool.false_and, Bool.true_and]
theorem zf93 (k : Kitchen) (d : Dish) (hg : k.allerg.length < 2 ^ 30) (hd : d.needs.length < 2 ^ 30) : Fn Tryz.prog 93 [.agg k.cells, .agg d.row] (.bool (dishB k.allerg.length d)) := by
  unfold dishB
  obtain ⟨R, hR⟩ : ∃ R, R = (((d.needs.length : Int) == (k.allerg.length : Int)) && d.needs.all needB) := ⟨_, rfl⟩
  rw [← hR]
  obtain ⟨N, hN⟩ : ∃ N, N = d.needs := ⟨_, rfl⟩
  rw [← hN] at hd hR
  refine fn_walk 27 Tryz.call93 Tryz.func93 rfl (by decide) fun J => ?_
  simp (maxSteps := 4000000) only [go_sem, St.start, Tryz.ntmps93, Tryz.results93, Dish.row, Kitchen.cells]
  rw [← hN]
  repeat (first | refine walkL_seq ?_ | refine walkL_skip ?_ | refine walkL_block ?_ | (refine walkL_region fun K hK => ?_; simp (maxSteps := 4000000) only [go_sem]; refine hK _ ?_; clear hK K) | refine walkL_nil ?_ | refine walkL_ret ?_ | refine walkL_exit ?_ | refine blockA_here ?_ | refine blockA_other rfl ?_ | refine blockA_ret ?_ | refine blockA_normal ?_ | refine thenA_ret ?_ | refine thenA_exit ?_ | refine thenA_normal ?_)
  refine walkL_loopS (fun (i : Nat) => [(5, .d (.i (i : Int)))]) (fun _ => []) (fun i => i ≤ N.length ∧ N.all needB = (N.drop i).all needB) (fun i => N.length - i) 0 ?_ ⟨Nat.zero_le _, rfl⟩ ?_
  · simp (maxSteps := 4000000) only [go_sem]
    refine weak_of [] ?_ ?_ rfl rfl <;> simp [lessT, lessM, lessB, AV.less]
  · rintro i ⟨hi, hall⟩
    simp (maxSteps := 4000000) only [go_sem]
    repeat (first | refine walkL_seq ?_ | refine walkL_skip ?_ | refine walkL_block ?_ | (refine walkL_region fun K hK => ?_; simp (maxSteps := 4000000) only [go_sem]; refine hK _ ?_; clear hK K) | refine walkL_nil ?_ | refine walkL_ret ?_ | refine walkL_exit ?_ | refine blockA_here ?_ | refine blockA_other rfl ?_ | refine blockA_ret ?_ | refine blockA_normal ?_ | refine thenA_ret ?_ | refine thenA_exit ?_ | refine thenA_normal ?_)
    refine walkL_cond rfl (fun hb => ?_) (fun hb => ?_)
    · have hlt : i < N.length := by simpa using hb
      have hw : IntKind.i64.wrap ((i : Int) + 1) = ((i + 1 : Nat) : Int) := by rw [wr_small (by omega)]; simp
      obtain ⟨x, hx⟩ : ∃ x, N[i]? = some x := ⟨_, List.getElem?_eq_getElem hlt⟩
      have g1 := intRows_at hx
      have hni : ¬ ((i : Int) < 0) := by omega
      have hc := zf91 x 0 5000
      rw [drop_get hx, List.all_cons] at hall
      cases q : needB x
      · rw [q, Bool.false_and] at hall
        rw [hall, Bool.and_false] at hR
        rw [needB] at q
        rw [q] at hc
        repeat (first | refine walkL_true rfl ?_ | refine walkL_false rfl ?_ | refine walkL_seq ?_ | refine walkL_skip ?_ | refine walkL_block ?_ | (refine walkL_region fun K hK => ?_; simp (maxSteps := 4000000) only [go_sem, g1, hni]; (repeat (first | (refine ⟨_, .lent (hf := hc) (hd := rfl) (hr := rfl), ?_⟩; simp (maxSteps := 4000000) only [go_sem, g1, hni]) | (refine ⟨_, .given (hf := hc) (hd := rfl) (ha := rfl), ?_⟩; simp (maxSteps := 4000000) only [go_sem, g1, hni]))); refine hK _ ?_; clear hK K) | refine walkL_nil ?_ | refine walkL_ret ?_ | refine walkL_exit ?_ | refine blockA_here ?_ | refine blockA_other rfl ?_ | refine blockA_ret ?_ | refine blockA_normal ?_ | refine thenA_ret ?_ | refine thenA_exit ?_ | refine thenA_normal ?_)
        simp (maxSteps := 4000000) only [go_sem, hR]
      · rw [q, Bool.true_and] at hall
        rw [needB] at q
        rw [q] at hc
        repeat (first | refine walkL_true rfl ?_ | refine walkL_false rfl ?_ | refine walkL_seq ?_ | refine walkL_skip ?_ | refine walkL_block ?_ | (refine walkL_region fun K hK => ?_; simp (maxSteps := 4000000) only [go_sem, g1, hni, hw]; (repeat (first | (refine ⟨_, .lent (hf := hc) (hd := rfl) (hr := rfl), ?_⟩; simp (maxSteps := 4000000) only [go_sem, g1, hni, hw]) | (refine ⟨_, .given (hf := hc) (hd := rfl) (ha := rfl), ?_⟩; simp (maxSteps := 4000000) only [go_sem, g1, hni, hw]))); refine hK _ ?_; clear hK K) | refine walkL_nil ?_ | refine walkL_ret ?_ | refine walkL_exit ?_ | refine blockA_here ?_ | refine blockA_other rfl ?_ | refine blockA_ret ?_ | refine blockA_normal ?_ | refine thenA_ret ?_ | refine thenA_exit ?_ | refine thenA_normal ?_)
        refine ⟨rfl, i + 1, ?_, ⟨hlt, hall⟩, by omega⟩
        refine weak_of [] ?_ ?_ rfl rfl <;> simp [lessT, lessM, lessB, AV.less]
    · have he : i = N.length := by (have : ¬ i < N.length := by simpa using hb); omega
      subst he
      rw [List.drop_length, List.all_nil] at hall
      rw [hall, Bool.and_true] at hR
      repeat (first | refine walkL_seq ?_ | refine walkL_skip ?_ | refine walkL_block ?_ | (refine walkL_region fun K hK => ?_; simp (maxSteps := 4000000) only [go_sem]; refine hK _ ?_; clear hK K) | refine walkL_nil ?_ | refine walkL_ret ?_ | refine walkL_exit ?_ | refine blockA_here ?_ | refine blockA_other rfl ?_ | refine blockA_ret ?_ | refine blockA_normal ?_ | refine thenA_ret ?_ | refine thenA_exit ?_ | refine thenA_normal ?_)
      simp (maxSteps := 4000000) only [go_sem, hR]
def badK1 (k : Kitchen) : Bool := !withinB (k.allerg.length : Int) 1 6 || (decide ((k.batches.length : Int) > 10) || (!withinB (k.dishes.length : Int) 1 5 || !withinB (k.days.length : Int) 1 6))
theorem kitE_bad {k : Kitchen} (h : badKit k = true) : kitE k = 70 := by rw [kitE, h]; rfl
theorem kitE_good {k : Kitchen} (h : badKit k = false) : kitE k = 0 := by rw [kitE, h]; rfl
def badG (g : Diners) : Bool := !withinB g.no 0 255 || (!withinB g.count.lo 0 g.count.hi || decide (g.count.hi > 100))
theorem groupB_eq (g : Diners) : groupB g = !badG g := by
  unfold groupB badG setB withinB
  rw [Bool.eq_iff_iff]
  simp
  intro _ _
  exact and_assoc.symm
theorem zf44 (k : Kitchen) (hs : KitSmall k) : Fn Tryz.prog 44 [.agg k.cells] (.i (kitE k)) := by
  have a1 := hs.allerg
  have h1 := zf91 (k.allerg.length : Int) 1 6
  have h5 := zf91 (k.dishes.length : Int) 1 5
  have h7 := zf91 (k.days.length : Int) 1 6
  have h92 := fun b => zf92 k b a1
  have h93 := fun d hd => zf93 k d a1 hd
  have a2 := hs.batches
  have a3 := hs.dishes
  have a4 := hs.needs
  have a5 := hs.days
  have a6 := hs.groups
  have kB : badKit k = (badK1 k || (!k.allerg.all setB || (!k.batches.all (batchB k.allerg.length) || (!k.dishes.all (dishB k.allerg.length) || !k.days.all dayB)))) := by
    unfold badKit badK1
    cases withinB (k.allerg.length : Int) 1 6 <;> cases decide ((k.batches.length : Int) > 10) <;> cases withinB (k.dishes.length : Int) 1 5 <;> cases withinB (k.days.length : Int) 1 6 <;> simp
  have kb := @kitE_bad k
  have kg := @kitE_good k
  rw [kB] at kb kg
  obtain ⟨E, hE⟩ : ∃ E, E = kitE k := ⟨_, rfl⟩
  rw [← hE] at kb kg ⊢
  rw [Kitchen.cells] at h92 h93
  refine fn_walk 130 Tryz.call44 Tryz.func44 rfl (by decide) fun J => ?_
  simp (maxSteps := 4000000) only [go_sem, St.start, Tryz.ntmps44, Tryz.results44, Kitchen.cells]
  repeat (first | refine walkL_seq ?_ | refine walkL_skip ?_ | refine walkL_block ?_ | (refine walkL_region fun K hK => ?_; simp (maxSteps := 4000000) only [go_sem]; refine hK _ ?_; clear hK K) | refine walkL_nil ?_ | refine walkL_ret ?_ | refine walkL_exit ?_ | refine blockA_here ?_ | refine blockA_other rfl ?_ | refine blockA_ret ?_ | refine blockA_normal ?_ | refine thenA_ret ?_ | refine thenA_exit ?_ | refine thenA_normal ?_)
  refine walkL_meetS [(33, .d (.bool (badK1 k)))] [] ?_ ?_
  · refine walkL_region fun K hK => ?_
    simp (maxSteps := 4000000) only [go_sem]
    refine ⟨_, .lent (hf := h1) (hd := rfl) (hr := rfl), ?_⟩
    simp (maxSteps := 4000000) only [go_sem]
    by_cases ho0 : (!withinB (k.allerg.length : Int) 1 6) = true
    · simp (maxSteps := 4000000) only [go_sem, ho0]
      refine hK _ ?_
      clear hK K
      refine walkL_nil ?_
      refine thenA_normal ?_
      refine ⟨rfl, ?_⟩
      rw [show (badK1 k) = (true) from by simp [badK1, ho0]]
      simp (maxSteps := 4000000) only [go_sem]
      refine weak_of [] ?_ ?_ rfl rfl <;> simp [lessT, lessM, lessB, AV.less]
    · simp (maxSteps := 4000000) only [go_sem, ho0]
      by_cases ho1 : (decide ((k.batches.length : Int) > 10)) = true
      · simp (maxSteps := 4000000) only [go_sem, ho0, ho1]
        refine hK _ ?_
        clear hK K
        refine walkL_nil ?_
        refine thenA_normal ?_
        refine ⟨rfl, ?_⟩
        rw [show (badK1 k) = (true) from by simp [badK1, ho0, ho1]]
        simp (maxSteps := 4000000) only [go_sem]
        refine weak_of [] ?_ ?_ rfl rfl <;> simp [lessT, lessM, lessB, AV.less]
      · simp (maxSteps := 4000000) only [go_sem, ho0, ho1]
        refine ⟨_, .lent (hf := h5) (hd := rfl) (hr := rfl), ?_⟩
        simp (maxSteps := 4000000) only [go_sem, ho0, ho1]
        by_cases ho2 : (!withinB (k.dishes.length : Int) 1 5) = true
        · simp (maxSteps := 4000000) only [go_sem, ho0, ho1, ho2]
          refine hK _ ?_
          clear hK K
          refine walkL_nil ?_
          refine thenA_normal ?_
          refine ⟨rfl, ?_⟩
          rw [show (badK1 k) = (true) from by simp [badK1, ho0, ho1, ho2]]
          simp (maxSteps := 4000000) only [go_sem]
          refine weak_of [] ?_ ?_ rfl rfl <;> simp [lessT, lessM, lessB, AV.less]
        · simp (maxSteps := 4000000) only [go_sem, ho0, ho1, ho2]
          refine ⟨_, .lent (hf := h7) (hd := rfl) (hr := rfl), ?_⟩
          simp (maxSteps := 4000000) only [go_sem, ho0, ho1, ho2]
          refine hK _ ?_
          clear hK K
          refine walkL_nil ?_
          refine thenA_normal ?_
          refine ⟨rfl, ?_⟩
          rw [show (badK1 k) = (!withinB (k.days.length : Int) 1 6) from by simp [badK1, ho0, ho1, ho2]]
          simp (maxSteps := 4000000) only [go_sem]
          refine weak_of [] ?_ ?_ rfl rfl <;> simp [lessT, lessM, lessB, AV.less]
  simp (maxSteps := 4000000) only [go_sem]
  repeat (first | refine walkL_seq ?_ | refine walkL_skip ?_ | refine walkL_block ?_ | (refine walkL_region fun K hK => ?_; simp (maxSteps := 4000000) only [go_sem]; refine hK _ ?_; clear hK K) | refine walkL_nil ?_ | refine walkL_ret ?_ | refine walkL_exit ?_ | refine blockA_here ?_ | refine blockA_other rfl ?_ | refine blockA_ret ?_ | refine blockA_normal ?_ | refine thenA_ret ?_ | refine thenA_exit ?_ | refine thenA_normal ?_)
  refine walkL_cond rfl (fun hc => ?_) (fun hc => ?_)
  · rw [hc, Bool.true_or] at kb
    have kb := kb rfl
    subst kb
    rw [hc]
    repeat (first | refine walkL_seq ?_ | refine walkL_skip ?_ | refine walkL_block ?_ | (refine walkL_region fun K hK => ?_; simp (maxSteps := 4000000) only [go_sem]; refine hK _ ?_; clear hK K) | refine walkL_nil ?_ | refine walkL_ret ?_ | refine walkL_exit ?_ | refine blockA_here ?_ | refine blockA_other rfl ?_ | refine blockA_ret ?_ | refine blockA_normal ?_ | refine thenA_ret ?_ | refine thenA_exit ?_ | refine thenA_normal ?_)
    simp (maxSteps := 4000000) only [go_sem, if_true]
  · rw [hc, Bool.false_or] at kb kg
    rw [hc]
    repeat (first | refine walkL_seq ?_ | refine walkL_skip ?_ | refine walkL_block ?_ | (refine walkL_region fun K hK => ?_; simp (maxSteps := 4000000) only [go_sem]; refine hK _ ?_; clear hK K) | refine walkL_nil ?_ | refine walkL_ret ?_ | refine walkL_exit ?_ | refine blockA_here ?_ | refine blockA_other rfl ?_ | refine blockA_ret ?_ | refine blockA_normal ?_ | refine thenA_ret ?_ | refine thenA_exit ?_ | refine thenA_normal ?_)
    refine walkL_loopS (fun (i : Nat) => [(3, .d (.i (i : Int)))]) (fun _ => []) (fun i => i ≤ k.allerg.length ∧ k.allerg.all (setB) = (k.allerg.drop i).all (setB)) (fun i => k.allerg.length - i) 0 ?_ ⟨Nat.zero_le _, rfl⟩ ?_
    · simp (maxSteps := 4000000) only [go_sem]
      refine weak_of [] ?_ ?_ rfl rfl <;> simp [lessT, lessM, lessB, AV.less]
    · rintro i ⟨hi, hall⟩
      simp (maxSteps := 4000000) only [go_sem]
      repeat (first | refine walkL_seq ?_ | refine walkL_skip ?_ | refine walkL_block ?_ | (refine walkL_region fun K hK => ?_; simp (maxSteps := 4000000) only [go_sem]; refine hK _ ?_; clear hK K) | refine walkL_nil ?_ | refine walkL_ret ?_ | refine walkL_exit ?_ | refine blockA_here ?_ | refine blockA_other rfl ?_ | refine blockA_ret ?_ | refine blockA_normal ?_ | refine thenA_ret ?_ | refine thenA_exit ?_ | refine thenA_normal ?_)
      refine walkL_cond rfl (fun hb => ?_) (fun hb => ?_)
      · have hlt : i < k.allerg.length := by simpa using hb
        have hw : IntKind.i64.wrap ((i : Int) + 1) = ((i + 1 : Nat) : Int) := by rw [wr_small (by omega)]; simp
        obtain ⟨x, hx⟩ : ∃ x, k.allerg[i]? = some x := ⟨_, List.getElem?_eq_getElem hlt⟩
        have g1 := intRows_at hx
        have hni : ¬ ((i : Int) < 0) := by omega
        have hc := zf91 x 0 255
        rw [drop_get hx, List.all_cons] at hall
        cases q : (setB) x
        · rw [q, Bool.false_and] at hall
          rw [hall] at kb
          have kb := kb rfl
          subst kb
          rw [setB] at q
          rw [q] at hc
          repeat (first | refine walkL_true rfl ?_ | refine walkL_false rfl ?_ | refine walkL_seq ?_ | refine walkL_skip ?_ | refine walkL_block ?_ | (refine walkL_region fun K hK => ?_; simp (maxSteps := 4000000) only [go_sem, g1, hni]; (repeat (first | (refine ⟨_, .lent (hf := hc) (hd := rfl) (hr := rfl), ?_⟩; simp (maxSteps := 4000000) only [go_sem, g1, hni]) | (refine ⟨_, .given (hf := hc) (hd := rfl) (ha := rfl), ?_⟩; simp (maxSteps := 4000000) only [go_sem, g1, hni]))); refine hK _ ?_; clear hK K) | refine walkL_nil ?_ | refine walkL_ret ?_ | refine walkL_exit ?_ | refine blockA_here ?_ | refine blockA_other rfl ?_ | refine blockA_ret ?_ | refine blockA_normal ?_ | refine thenA_ret ?_ | refine thenA_exit ?_ | refine thenA_normal ?_)
          simp (maxSteps := 4000000) only [go_sem]
        · rw [q, Bool.true_and] at hall
          rw [setB] at q
          rw [q] at hc
          repeat (first | refine walkL_true rfl ?_ | refine walkL_false rfl ?_ | refine walkL_seq ?_ | refine walkL_skip ?_ | refine walkL_block ?_ | (refine walkL_region fun K hK => ?_; simp (maxSteps := 4000000) only [go_sem, g1, hni, hw]; (repeat (first | (refine ⟨_, .lent (hf := hc) (hd := rfl) (hr := rfl), ?_⟩; simp (maxSteps := 4000000) only [go_sem, g1, hni, hw]) | (refine ⟨_, .given (hf := hc) (hd := rfl) (ha := rfl), ?_⟩; simp (maxSteps := 4000000) only [go_sem, g1, hni, hw]))); refine hK _ ?_; clear hK K) | refine walkL_nil ?_ | refine walkL_ret ?_ | refine walkL_exit ?_ | refine blockA_here ?_ | refine blockA_other rfl ?_ | refine blockA_ret ?_ | refine blockA_normal ?_ | refine thenA_ret ?_ | refine thenA_exit ?_ | refine thenA_normal ?_)
          refine ⟨rfl, i + 1, ?_, ⟨hlt, hall⟩, by omega⟩
          refine weak_of [] ?_ ?_ rfl rfl <;> simp [lessT, lessM, lessB, AV.less]
      · have he : i = k.allerg.length := by (have : ¬ i < k.allerg.length := by simpa using hb); omega
        subst he
        rw [List.drop_length, List.all_nil] at hall
        rw [hall, Bool.not_true, Bool.false_or] at kb kg
        clear hall
        repeat (first | refine walkL_seq ?_ | refine walkL_skip ?_ | refine walkL_block ?_ | (refine walkL_region fun K hK => ?_; simp (maxSteps := 4000000) only [go_sem]; refine hK _ ?_; clear hK K) | refine walkL_nil ?_ | refine walkL_ret ?_ | refine walkL_exit ?_ | refine blockA_here ?_ | refine blockA_other rfl ?_ | refine blockA_ret ?_ | refine blockA_normal ?_ | refine thenA_ret ?_ | refine thenA_exit ?_ | refine thenA_normal ?_)
        refine walkL_loopS (fun (i : Nat) => [(4, .d (.i (i : Int)))]) (fun _ => []) (fun i => i ≤ k.batches.length ∧ k.batches.all (batchB k.allerg.length) = (k.batches.drop i).all (batchB k.allerg.length)) (fun i => k.batches.length - i) 0 ?_ ⟨Nat.zero_le _, rfl⟩ ?_
        · simp (maxSteps := 4000000) only [go_sem]
          refine weak_of [] ?_ ?_ rfl rfl <;> simp [lessT, lessM, lessB, AV.less]
        · rintro i ⟨hi, hall⟩
          simp (maxSteps := 4000000) only [go_sem]
          repeat (first | refine walkL_seq ?_ | refine walkL_skip ?_ | refine walkL_block ?_ | (refine walkL_region fun K hK => ?_; simp (maxSteps := 4000000) only [go_sem]; refine hK _ ?_; clear hK K) | refine walkL_nil ?_ | refine walkL_ret ?_ | refine walkL_exit ?_ | refine blockA_here ?_ | refine blockA_other rfl ?_ | refine blockA_ret ?_ | refine blockA_normal ?_ | refine thenA_ret ?_ | refine thenA_exit ?_ | refine thenA_normal ?_)
          refine walkL_cond rfl (fun hb => ?_) (fun hb => ?_)
          · have hlt : i < k.batches.length := by simpa using hb
            have hw : IntKind.i64.wrap ((i : Int) + 1) = ((i + 1 : Nat) : Int) := by rw [wr_small (by omega)]; simp
            obtain ⟨x, hx⟩ : ∃ x, k.batches[i]? = some x := ⟨_, List.getElem?_eq_getElem hlt⟩
            have g1 := batRows_at hx
            have hni : ¬ ((i : Int) < 0) := by omega
            have hc := h92 x
            rw [Batch.row] at g1 hc
            rw [drop_get hx, List.all_cons] at hall
            cases q : (batchB k.allerg.length) x
            · rw [q, Bool.false_and] at hall
              rw [hall] at kb
              have kb := kb rfl
              subst kb
              skip
              rw [q] at hc
              repeat (first | refine walkL_seq ?_ | refine walkL_skip ?_ | refine walkL_block ?_ | (refine walkL_region fun K hK => ?_; simp (maxSteps := 4000000) only [go_sem]; refine hK _ ?_; clear hK K) | refine walkL_nil ?_ | refine walkL_ret ?_ | refine walkL_exit ?_ | refine blockA_here ?_ | refine blockA_other rfl ?_ | refine blockA_ret ?_ | refine blockA_normal ?_ | refine thenA_ret ?_ | refine thenA_exit ?_ | refine thenA_normal ?_)
              refine walkL_drawn (by kernel_rfl) (by kernel_rfl) fun K hK => ?_
              simp (maxSteps := 4000000) only [go_sem, g1, hni]
              refine ⟨_, .fn (hf := hc) (hd := rfl) (hr := .inl rfl), ?_⟩
              simp (maxSteps := 4000000) only [go_sem]
              refine ⟨by kernel_rfl, hK _ ?_⟩
              clear hK K
              repeat (first | refine walkL_true rfl ?_ | refine walkL_false rfl ?_ | refine walkL_seq ?_ | refine walkL_skip ?_ | refine walkL_block ?_ | (refine walkL_region fun K hK => ?_; simp (maxSteps := 4000000) only [go_sem]; refine hK _ ?_; clear hK K) | refine walkL_nil ?_ | refine walkL_ret ?_ | refine walkL_exit ?_ | refine blockA_here ?_ | refine blockA_other rfl ?_ | refine blockA_ret ?_ | refine blockA_normal ?_ | refine thenA_ret ?_ | refine thenA_exit ?_ | refine thenA_normal ?_)
              simp (maxSteps := 4000000) only [go_sem]
            · rw [q, Bool.true_and] at hall
              skip
              rw [q] at hc
              repeat (first | refine walkL_seq ?_ | refine walkL_skip ?_ | refine walkL_block ?_ | (refine walkL_region fun K hK => ?_; simp (maxSteps := 4000000) only [go_sem]; refine hK _ ?_; clear hK K) | refine walkL_nil ?_ | refine walkL_ret ?_ | refine walkL_exit ?_ | refine blockA_here ?_ | refine blockA_other rfl ?_ | refine blockA_ret ?_ | refine blockA_normal ?_ | refine thenA_ret ?_ | refine thenA_exit ?_ | refine thenA_normal ?_)
              refine walkL_drawn (by kernel_rfl) (by kernel_rfl) fun K hK => ?_
              simp (maxSteps := 4000000) only [go_sem, g1, hni]
              refine ⟨_, .fn (hf := hc) (hd := rfl) (hr := .inl rfl), ?_⟩
              simp (maxSteps := 4000000) only [go_sem]
              refine ⟨by kernel_rfl, hK _ ?_⟩
              clear hK K
              repeat (first | refine walkL_true rfl ?_ | refine walkL_false rfl ?_ | refine walkL_seq ?_ | refine walkL_skip ?_ | refine walkL_block ?_ | (refine walkL_region fun K hK => ?_; simp (maxSteps := 4000000) only [go_sem, hw]; refine hK _ ?_; clear hK K) | refine walkL_nil ?_ | refine walkL_ret ?_ | refine walkL_exit ?_ | refine blockA_here ?_ | refine blockA_other rfl ?_ | refine blockA_ret ?_ | refine blockA_normal ?_ | refine thenA_ret ?_ | refine thenA_exit ?_ | refine thenA_normal ?_)
              refine ⟨rfl, i + 1, ?_, ⟨hlt, hall⟩, by omega⟩
              refine weak_of [] ?_ ?_ rfl rfl <;> simp [lessT, lessM, lessB, AV.less]
          · have he : i = k.batches.length := by (have : ¬ i < k.batches.length := by simpa using hb); omega
            subst he
            rw [List.drop_length, List.all_nil] at hall
            rw [hall, Bool.not_true, Bool.false_or] at kb kg
            clear hall
            repeat (first | refine walkL_seq ?_ | refine walkL_skip ?_ | refine walkL_block ?_ | (refine walkL_region fun K hK => ?_; simp (maxSteps := 4000000) only [go_sem]; refine hK _ ?_; clear hK K) | refine walkL_nil ?_ | refine walkL_ret ?_ | refine walkL_exit ?_ | refine blockA_here ?_ | refine blockA_other rfl ?_ | refine blockA_ret ?_ | refine blockA_normal ?_ | refine thenA_ret ?_ | refine thenA_exit ?_ | refine thenA_normal ?_)
            refine walkL_loopS (fun (i : Nat) => [(5, .d (.i (i : Int)))]) (fun _ => []) (fun i => i ≤ k.dishes.length ∧ k.dishes.all (dishB k.allerg.length) = (k.dishes.drop i).all (dishB k.allerg.length)) (fun i => k.dishes.length - i) 0 ?_ ⟨Nat.zero_le _, rfl⟩ ?_
            · simp (maxSteps := 4000000) only [go_sem]
              refine weak_of [] ?_ ?_ rfl rfl <;> simp [lessT, lessM, lessB, AV.less]
            · rintro i ⟨hi, hall⟩
              simp (maxSteps := 4000000) only [go_sem]
              repeat (first | refine walkL_seq ?_ | refine walkL_skip ?_ | refine walkL_block ?_ | (refine walkL_region fun K hK => ?_; simp (maxSteps := 4000000) only [go_sem]; refine hK _ ?_; clear hK K) | refine walkL_nil ?_ | refine walkL_ret ?_ | refine walkL_exit ?_ | refine blockA_here ?_ | refine blockA_other rfl ?_ | refine blockA_ret ?_ | refine blockA_normal ?_ | refine thenA_ret ?_ | refine thenA_exit ?_ | refine thenA_normal ?_)
              refine walkL_cond rfl (fun hb => ?_) (fun hb => ?_)
              · have hlt : i < k.dishes.length := by simpa using hb
                have hw : IntKind.i64.wrap ((i : Int) + 1) = ((i + 1 : Nat) : Int) := by rw [wr_small (by omega)]; simp
                obtain ⟨x, hx⟩ : ∃ x, k.dishes[i]? = some x := ⟨_, List.getElem?_eq_getElem hlt⟩
                have g1 := dishRows_at hx
                have hni : ¬ ((i : Int) < 0) := by omega
                have hc := h93 x (a4 x (List.mem_of_getElem? hx))
                rw [Dish.row] at g1 hc
                rw [drop_get hx, List.all_cons] at hall
                cases q : (dishB k.allerg.length) x
                · rw [q, Bool.false_and] at hall
                  rw [hall] at kb
                  have kb := kb rfl
                  subst kb
                  skip
                  rw [q] at hc
                  repeat (first | refine walkL_seq ?_ | refine walkL_skip ?_ | refine walkL_block ?_ | (refine walkL_region fun K hK => ?_; simp (maxSteps := 4000000) only [go_sem]; refine hK _ ?_; clear hK K) | refine walkL_nil ?_ | refine walkL_ret ?_ | refine walkL_exit ?_ | refine blockA_here ?_ | refine blockA_other rfl ?_ | refine blockA_ret ?_ | refine blockA_normal ?_ | refine thenA_ret ?_ | refine thenA_exit ?_ | refine thenA_normal ?_)
                  refine walkL_drawn (by kernel_rfl) (by kernel_rfl) fun K hK => ?_
                  simp (maxSteps := 4000000) only [go_sem, g1, hni]
                  refine ⟨_, .fn (hf := hc) (hd := rfl) (hr := .inl rfl), ?_⟩
                  simp (maxSteps := 4000000) only [go_sem]
                  refine ⟨by kernel_rfl, hK _ ?_⟩
                  clear hK K
                  repeat (first | refine walkL_true rfl ?_ | refine walkL_false rfl ?_ | refine walkL_seq ?_ | refine walkL_skip ?_ | refine walkL_block ?_ | (refine walkL_region fun K hK => ?_; simp (maxSteps := 4000000) only [go_sem]; refine hK _ ?_; clear hK K) | refine walkL_nil ?_ | refine walkL_ret ?_ | refine walkL_exit ?_ | refine blockA_here ?_ | refine blockA_other rfl ?_ | refine blockA_ret ?_ | refine blockA_normal ?_ | refine thenA_ret ?_ | refine thenA_exit ?_ | refine thenA_normal ?_)
                  simp (maxSteps := 4000000) only [go_sem]
                · rw [q, Bool.true_and] at hall
                  skip
                  rw [q] at hc
                  repeat (first | refine walkL_seq ?_ | refine walkL_skip ?_ | refine walkL_block ?_ | (refine walkL_region fun K hK => ?_; simp (maxSteps := 4000000) only [go_sem]; refine hK _ ?_; clear hK K) | refine walkL_nil ?_ | refine walkL_ret ?_ | refine walkL_exit ?_ | refine blockA_here ?_ | refine blockA_other rfl ?_ | refine blockA_ret ?_ | refine blockA_normal ?_ | refine thenA_ret ?_ | refine thenA_exit ?_ | refine thenA_normal ?_)
                  refine walkL_drawn (by kernel_rfl) (by kernel_rfl) fun K hK => ?_
                  simp (maxSteps := 4000000) only [go_sem, g1, hni]
                  refine ⟨_, .fn (hf := hc) (hd := rfl) (hr := .inl rfl), ?_⟩
                  simp (maxSteps := 4000000) only [go_sem]
                  refine ⟨by kernel_rfl, hK _ ?_⟩
                  clear hK K
                  repeat (first | refine walkL_true rfl ?_ | refine walkL_false rfl ?_ | refine walkL_seq ?_ | refine walkL_skip ?_ | refine walkL_block ?_ | (refine walkL_region fun K hK => ?_; simp (maxSteps := 4000000) only [go_sem, hw]; refine hK _ ?_; clear hK K) | refine walkL_nil ?_ | refine walkL_ret ?_ | refine walkL_exit ?_ | refine blockA_here ?_ | refine blockA_other rfl ?_ | refine blockA_ret ?_ | refine blockA_normal ?_ | refine thenA_ret ?_ | refine thenA_exit ?_ | refine thenA_normal ?_)
                  refine ⟨rfl, i + 1, ?_, ⟨hlt, hall⟩, by omega⟩
                  refine weak_of [] ?_ ?_ rfl rfl <;> simp [lessT, lessM, lessB, AV.less]
              · have he : i = k.dishes.length := by (have : ¬ i < k.dishes.length := by simpa using hb); omega
                subst he
                rw [List.drop_length, List.all_nil] at hall
                rw [hall, Bool.not_true, Bool.false_or] at kb kg
                clear hall
                repeat (first | refine walkL_seq ?_ | refine walkL_skip ?_ | refine walkL_block ?_ | (refine walkL_region fun K hK => ?_; simp (maxSteps := 4000000) only [go_sem]; refine hK _ ?_; clear hK K) | refine walkL_nil ?_ | refine walkL_ret ?_ | refine walkL_exit ?_ | refine blockA_here ?_ | refine blockA_other rfl ?_ | refine blockA_ret ?_ | refine blockA_normal ?_ | refine thenA_ret ?_ | refine thenA_exit ?_ | refine thenA_normal ?_)
                refine walkL_loopS (fun (i : Nat) => [(6, .d (.i (i : Int))), (7, .undef), (8, .undef)]) (fun _ => []) (fun i => i ≤ k.days.length ∧ k.days.all dayB = (k.days.drop i).all dayB) (fun i => k.days.length - i) 0 ?_ ⟨Nat.zero_le _, rfl⟩ ?_
                · simp (maxSteps := 4000000) only [go_sem]
                  refine weak_of [] ?_ ?_ rfl rfl <;> simp [lessT, lessM, lessB, AV.less]
                · rintro i ⟨hi, hall⟩
                  simp (maxSteps := 4000000) only [go_sem]
                  repeat (first | refine walkL_seq ?_ | refine walkL_skip ?_ | refine walkL_block ?_ | (refine walkL_region fun K hK => ?_; simp (maxSteps := 4000000) only [go_sem]; refine hK _ ?_; clear hK K) | refine walkL_nil ?_ | refine walkL_ret ?_ | refine walkL_exit ?_ | refine blockA_here ?_ | refine blockA_other rfl ?_ | refine blockA_ret ?_ | refine blockA_normal ?_ | refine thenA_ret ?_ | refine thenA_exit ?_ | refine thenA_normal ?_)
                  refine walkL_cond rfl (fun hb => ?_) (fun hb => ?_)
                  · have hlt : i < k.days.length := by simpa using hb
                    have hw : IntKind.i64.wrap ((i : Int) + 1) = ((i + 1 : Nat) : Int) := by rw [wr_small (by omega)]; simp
                    obtain ⟨x, hx⟩ : ∃ x, k.days[i]? = some x := ⟨_, List.getElem?_eq_getElem hlt⟩
                    have g1 := dayRows_at hx
                    have hni : ¬ ((i : Int) < 0) := by omega
                    have hxl := a6 x (List.mem_of_getElem? hx)
                    rw [drop_get hx, List.all_cons, dayB] at hall
                    cases q : decide ((x.length : Int) > 3)
                    · have q2 : decide ((x.length : Int) ≤ 3) = true := by simp at q ⊢; omega
                      rw [q2, Bool.true_and] at hall
                      have hx3 : x.length ≤ 3 := by simp at q2; omega
                      repeat (first | refine walkL_true rfl ?_ | refine walkL_false rfl ?_ | refine walkL_seq ?_ | refine walkL_skip ?_ | refine walkL_block ?_ | (refine walkL_region fun K hK => ?_; simp (maxSteps := 4000000) only [go_sem, g1, hni, q]; refine hK _ ?_; clear hK K) | refine walkL_nil ?_ | refine walkL_ret ?_ | refine walkL_exit ?_ | refine blockA_here ?_ | refine blockA_other rfl ?_ | refine blockA_ret ?_ | refine blockA_normal ?_ | refine thenA_ret ?_ | refine thenA_exit ?_ | refine thenA_normal ?_)
                      refine walkL_loopS (fun (j : Nat) => [(7, .d (.i (j : Int))), (8, .undef)]) (fun _ => []) (fun j => j ≤ x.length ∧ k.days.all dayB = ((x.drop j).all groupB && (k.days.drop (i + 1)).all dayB)) (fun j => x.length - j) 0 ?_ ⟨Nat.zero_le _, hall⟩ ?_
                      · simp (maxSteps := 4000000) only [go_sem]
                        refine weak_of [] ?_ ?_ rfl rfl <;> simp [lessT, lessM, lessB, AV.less]
                      · rintro j ⟨hj, hallj⟩
                        simp (maxSteps := 4000000) only [go_sem]
                        repeat (first | refine walkL_seq ?_ | refine walkL_skip ?_ | refine walkL_block ?_ | (refine walkL_region fun K hK => ?_; simp (maxSteps := 4000000) only [go_sem, g1, hni]; refine hK _ ?_; clear hK K) | refine walkL_nil ?_ | refine walkL_ret ?_ | refine walkL_exit ?_ | refine blockA_here ?_ | refine blockA_other rfl ?_ | refine blockA_ret ?_ | refine blockA_normal ?_ | refine thenA_ret ?_ | refine thenA_exit ?_ | refine thenA_normal ?_)
                        refine walkL_cond rfl (fun hb => ?_) (fun hb => ?_)
                        · have hltj : j < x.length := by simpa using hb
                          have hwj : IntKind.i64.wrap ((j : Int) + 1) = ((j + 1 : Nat) : Int) := by rw [wr_small (by omega)]; simp
                          obtain ⟨y, hy⟩ : ∃ y, x[j]? = some y := ⟨_, List.getElem?_eq_getElem hltj⟩
                          have g3 := dinRows_at hy
                          rw [Diners.row] at g3
                          have hnj : ¬ ((j : Int) < 0) := by omega
                          have c1 := zf91 y.no 0 255
                          have c2 := zf91 y.count.lo 0 y.count.hi
                          rw [drop_get hy, List.all_cons, groupB_eq] at hallj
                          repeat (first | refine walkL_seq ?_ | refine walkL_skip ?_ | refine walkL_block ?_ | (refine walkL_region fun K hK => ?_; simp (maxSteps := 4000000) only [go_sem, g1, hni, g3, hnj]; refine hK _ ?_; clear hK K) | refine walkL_nil ?_ | refine walkL_ret ?_ | refine walkL_exit ?_ | refine blockA_here ?_ | refine blockA_other rfl ?_ | refine blockA_ret ?_ | refine blockA_normal ?_ | refine thenA_ret ?_ | refine thenA_exit ?_ | refine thenA_normal ?_)
                          refine walkL_meetS [(129, .d (.bool (badG y)))] [] ?_ ?_
                          · refine walkL_region fun K hK => ?_
                            simp (maxSteps := 4000000) only [go_sem]
                            refine ⟨_, .lent (hf := c1) (hd := rfl) (hr := rfl), ?_⟩
                            simp (maxSteps := 4000000) only [go_sem]
                            by_cases ho0 : (!withinB y.no 0 255) = true
                            · simp (maxSteps := 4000000) only [go_sem, ho0]
                              refine hK _ ?_
                              clear hK K
                              refine walkL_nil ?_
                              refine thenA_normal ?_
                              refine ⟨rfl, ?_⟩
                              rw [show (badG y) = (true) from by simp [badG, ho0]]
                              simp (maxSteps := 4000000) only [go_sem]
                              refine weak_of [] ?_ ?_ rfl rfl <;> simp [lessT, lessM, lessB, AV.less]
                            · simp (maxSteps := 4000000) only [go_sem, ho0]
                              refine ⟨_, .lent (hf := c2) (hd := rfl) (hr := rfl), ?_⟩
                              simp (maxSteps := 4000000) only [go_sem, ho0]
                              by_cases ho1 : (!withinB y.count.lo 0 y.count.hi) = true
                              · simp (maxSteps := 4000000) only [go_sem, ho0, ho1]
                                refine hK _ ?_
                                clear hK K
                                refine walkL_nil ?_
                                refine thenA_normal ?_
                                refine ⟨rfl, ?_⟩
                                rw [show (badG y) = (true) from by simp [badG, ho0, ho1]]
                                simp (maxSteps := 4000000) only [go_sem]
                                refine weak_of [] ?_ ?_ rfl rfl <;> simp [lessT, lessM, lessB, AV.less]
                              · simp (maxSteps := 4000000) only [go_sem, ho0, ho1]
                                refine hK _ ?_
                                clear hK K
                                refine walkL_nil ?_
                                refine thenA_normal ?_
                                refine ⟨rfl, ?_⟩
                                rw [show (badG y) = (decide (y.count.hi > 100)) from by simp [badG, ho0, ho1]]
                                simp (maxSteps := 4000000) only [go_sem]
                                refine weak_of [] ?_ ?_ rfl rfl <;> simp [lessT, lessM, lessB, AV.less]
                          simp (maxSteps := 4000000) only [go_sem]
                          repeat (first | refine walkL_seq ?_ | refine walkL_skip ?_ | refine walkL_block ?_ | (refine walkL_region fun K hK => ?_; simp (maxSteps := 4000000) only [go_sem]; refine hK _ ?_; clear hK K) | refine walkL_nil ?_ | refine walkL_ret ?_ | refine walkL_exit ?_ | refine blockA_here ?_ | refine blockA_other rfl ?_ | refine blockA_ret ?_ | refine blockA_normal ?_ | refine thenA_ret ?_ | refine thenA_exit ?_ | refine thenA_normal ?_)
                          refine walkL_cond rfl (fun hc => ?_) (fun hc => ?_)
                          · rw [hc, Bool.not_true, Bool.false_and, Bool.false_and] at hallj
                            rw [hallj] at kb
                            have kb := kb rfl
                            subst kb
                            rw [hc]
                            repeat (first | refine walkL_seq ?_ | refine walkL_skip ?_ | refine walkL_block ?_ | (refine walkL_region fun K hK => ?_; simp (maxSteps := 4000000) only [go_sem]; refine hK _ ?_; clear hK K) | refine walkL_nil ?_ | refine walkL_ret ?_ | refine walkL_exit ?_ | refine blockA_here ?_ | refine blockA_other rfl ?_ | refine blockA_ret ?_ | refine blockA_normal ?_ | refine thenA_ret ?_ | refine thenA_exit ?_ | refine thenA_normal ?_)
                            simp (maxSteps := 4000000) only [go_sem, if_true]
                          · rw [hc, Bool.not_false, Bool.true_and] at hallj
                            rw [hc]
                            repeat (first | refine walkL_seq ?_ | refine walkL_skip ?_ | refine walkL_block ?_ | (refine walkL_region fun K hK => ?_; simp (maxSteps := 4000000) only [go_sem, hwj]; refine hK _ ?_; clear hK K) | refine walkL_nil ?_ | refine walkL_ret ?_ | refine walkL_exit ?_ | refine blockA_here ?_ | refine blockA_other rfl ?_ | refine blockA_ret ?_ | refine blockA_normal ?_ | refine thenA_ret ?_ | refine thenA_exit ?_ | refine thenA_normal ?_)
                            refine ⟨rfl, j + 1, ?_, ⟨hltj, hallj⟩, by omega⟩
                            refine weak_of [] ?_ ?_ rfl rfl <;> simp [lessT, lessM, lessB, AV.less]
                        · have he : j = x.length := by (have : ¬ j < x.length := by simpa using hb); omega
                          subst he
                          rw [List.drop_length, List.all_nil, Bool.true_and] at hallj
                          repeat (first | refine walkL_seq ?_ | refine walkL_skip ?_ | refine walkL_block ?_ | (refine walkL_region fun K hK => ?_; simp (maxSteps := 4000000) only [go_sem, hw]; refine hK _ ?_; clear hK K) | refine walkL_nil ?_ | refine walkL_ret ?_ | refine walkL_exit ?_ | refine blockA_here ?_ | refine blockA_other rfl ?_ | refine blockA_ret ?_ | refine blockA_normal ?_ | refine thenA_ret ?_ | refine thenA_exit ?_ | refine thenA_normal ?_)
                          refine ⟨rfl, i + 1, ?_, ⟨hlt, hallj⟩, by omega⟩
                          refine weak_of [] ?_ ?_ rfl rfl <;> simp [lessT, lessM, lessB, AV.less]
                    · have q2 : decide ((x.length : Int) ≤ 3) = false := by simp at q ⊢; omega
                      rw [q2, Bool.false_and, Bool.false_and] at hall
                      rw [hall] at kb
                      have kb := kb rfl
                      subst kb
                      repeat (first | refine walkL_true rfl ?_ | refine walkL_false rfl ?_ | refine walkL_seq ?_ | refine walkL_skip ?_ | refine walkL_block ?_ | (refine walkL_region fun K hK => ?_; simp (maxSteps := 4000000) only [go_sem, g1, hni, q]; refine hK _ ?_; clear hK K) | refine walkL_nil ?_ | refine walkL_ret ?_ | refine walkL_exit ?_ | refine blockA_here ?_ | refine blockA_other rfl ?_ | refine blockA_ret ?_ | refine blockA_normal ?_ | refine thenA_ret ?_ | refine thenA_exit ?_ | refine thenA_normal ?_)
                      simp (maxSteps := 4000000) only [go_sem]
                  · have he : i = k.days.length := by (have : ¬ i < k.days.length := by simpa using hb); omega
                    subst he
                    rw [List.drop_length, List.all_nil] at hall
                    rw [hall] at kg
                    have kg := kg rfl
                    subst kg
                    repeat (first | refine walkL_seq ?_ | refine walkL_skip ?_ | refine walkL_block ?_ | (refine walkL_region fun K hK => ?_; simp (maxSteps := 4000000) only [go_sem]; refine hK _ ?_; clear hK K) | refine walkL_nil ?_ | refine walkL_ret ?_ | refine walkL_exit ?_ | refine blockA_here ?_ | refine blockA_other rfl ?_ | refine blockA_ret ?_ | refine blockA_normal ?_ | refine thenA_ret ?_ | refine thenA_exit ?_ | refine thenA_normal ?_)
                    simp (maxSteps := 4000000) only [go_sem]
end Go.Ab
