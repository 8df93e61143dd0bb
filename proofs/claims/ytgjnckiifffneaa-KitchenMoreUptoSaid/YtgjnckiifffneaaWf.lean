/- A walk engine over abstract states, and the contracts of the functions that the statement reaches: part 6. -/
import Derived.Test.YtgjnckiifffneaaWe
set_option linter.unusedVariables false
set_option linter.unusedSimpArgs false
set_option linter.unnecessarySimpa false
namespace Go.Ab
open Go.RowKit Go.Proofs
set_option maxHeartbeats 16000000
set_option maxRecDepth 20000
attribute [local irreducible] WalkL Walk
theorem zf14m (k : Kitchen) (hs : KitSmall k) : FnG Try.prog 14 [] [] (List.map AV.d [.agg k.cells]) (.agg [.own 0, .own 1, .own 2, .own 3])
    [.arr 3 1 (intRows k.allerg), .arr 47 3 (batRows k.batches), .arr 72 1 (dishRows k.dishes), .arr 58 1 (dayRows k.days)] := by
  have a1 := hs.allerg
  have a2 := hs.batches
  have a3 := hs.dishes
  have a5 := hs.days
  have e1 : k.allerg.length ≤ 549755813888 := by omega
  have e2 : k.batches.length ≤ 549755813888 := by omega
  have hcl : k.cells.length = 4 := rfl
  have k0 : k.cells[0]? = some (.sl (intRows k.allerg)) := rfl
  have k1 : k.cells[1]? = some (.sl (batRows k.batches)) := rfl
  have k2 : k.cells[2]? = some (.sl (dishRows k.dishes)) := rfl
  have k3 : k.cells[3]? = some (.sl (dayRows k.days)) := rfl
  have hct : k.cells.take 4 = k.cells := rfl
  have hh : headIs 1 (intRows k.allerg) = true := by cases k.allerg <;> rfl
  refine z71 56 Try.call14 Try.func14 rfl (by decide) [6, 10, 34, 53] [] (by simp only [List.length_cons, List.length_nil]; decide) (by kernel_rfl) fun J => ?_
  simp (maxSteps := 4000000) only [go_sem, St.startG, Try.ntmps14, Try.results14, List.map_cons, List.map_nil, List.range_succ,  Kitchen.cells]
  repeat (first | refine z21 ?_ | refine z16 ?_ | refine z14 ?_ | (refine z12 fun K hK => ?_; simp (maxSteps := 4000000) only [go_sem]; refine hK _ ?_; clear hK K) | refine z20 ?_ | refine z22 ?_ | refine z17 ?_ | refine z15 ?_ | refine z13 rfl ?_ | refine z19 ?_ | refine z10 ?_ | refine z23 ?_ | refine z18 ?_ | refine z11 ?_)
  refine z32 [1] ?_
  simp (maxSteps := 4000000) only [go_sem]
  refine z244 (by kernel_rfl) (by kernel_rfl) (fun m => ⟨[.d (.agg k.cells), .d (.ptr k.cells 0), .box 2 0, bif m 9 then .undef else .box 3 0, .undef, .undef,
      bif m 0 then .undef else (bif m 3 then .own 6 else .undef), sel (m 1) (.ptr k.cells 0), sel (m 2) (.sl (intRows k.allerg)), bif m 3 then .undef else .own 6,
      bif m 4 then .undef else (bif m 7 then .own 10 else .undef), sel (m 5) (.ptr k.cells 1), sel (m 6) (.sl (batRows k.batches)), bif m 7 then .undef else .own 10,
      bif m 8 then .undef else .agg [.own 6, .own 10, .nil, .nil]] ++ List.replicate 41 .undef,
    [none, none, some (.box [.nil, .nil, .nil, .nil]), stB (m 9) (m 10) (.box [.nil, .nil, .nil, .nil]) (.box [.own 6, .own 10, .nil, .nil]), none, none,
      stB (m 0) (m 3) (.arr 3 1 []) (.arr 3 1 (intRows k.allerg)), none, none, none, stB (m 4) (m 7) (.arr 47 3 []) (.arr 47 3 (batRows k.batches))] ++ List.replicate 45 none⟩) ?_ ?_ ?_
  · simp (maxSteps := 4000000) only [go_sem]
    rfl
  · refine ⟨?_, ?_, ?_, ?_, ?_, ?_, ?_, ?_, ?_, ?_, ?_, trivial⟩
    all_goals
      intro m hm hd hc
      simp only [closedM, depsM, Region.binds, true_and, and_true, Nat.zero_add, Nat.reduceAdd, reduceCtorEq, forall_const] at hc hd
      cases h0 : m 0 <;> cases h3 : m 3 <;> cases h4 : m 4 <;> cases h7 : m 7 <;> (try simp [h0, h3, h4, h7] at hc hd hm)
    all_goals
      cases h8 : m 8 <;> cases h9 : m 9 <;> cases h10 : m 10 <;> (try simp [h0, h3, h4, h7, h8, h9, h10] at hc hd hm)
    all_goals
      refine ⟨rfl, rfl, ?_⟩
      simp (maxSteps := 4000000) only [go_sem, hm, hd, h0, h3, h4, h7, h8, h9, h10, hcl, hct, k0, k1, e1, e2, hh, batRows_head, List.nil_append, List.length_nil, Nat.zero_add]
  · simp (maxSteps := 4000000) only [go_sem]
    repeat (first | refine z21 ?_ | refine z16 ?_ | refine z14 ?_ | (refine z12 fun K hK => ?_; simp (maxSteps := 4000000) only [go_sem]; refine hK _ ?_; clear hK K) | refine z20 ?_ | refine z22 ?_ | refine z17 ?_ | refine z15 ?_ | refine z13 rfl ?_ | refine z19 ?_ | refine z10 ?_ | refine z23 ?_ | refine z18 ?_ | refine z11 ?_)
    refine z28 (fun (i : Nat) => [(4, .d (.i (i : Int)))]) (fun i => [(3, some (.box [.own 6, .own 10, .own 34, .nil])), (34, some (.arr 72 1 (dishRows (k.dishes.take i))))]) (fun i => i ≤ k.dishes.length) (fun i => k.dishes.length - i) 0 ?_ (Nat.zero_le _) ?_
    · simp (maxSteps := 4000000) only [go_sem]
      refine z26 [34] ?_ ?_ rfl rfl <;> simp [lessT, lessM, lessB, AV.less, dishRows]
    · intro i hi
      simp (maxSteps := 4000000) only [go_sem]
      repeat (first | refine z21 ?_ | refine z16 ?_ | refine z14 ?_ | (refine z12 fun K hK => ?_; simp (maxSteps := 4000000) only [go_sem, k2]; refine hK _ ?_; clear hK K) | refine z20 ?_ | refine z22 ?_ | refine z17 ?_ | refine z15 ?_ | refine z13 rfl ?_ | refine z19 ?_ | refine z10 ?_ | refine z23 ?_ | refine z18 ?_ | refine z11 ?_)
      refine z27 rfl (fun hb => ?_) (fun hb => ?_)
      · have hlt : i < k.dishes.length := by simpa using hb
        have hw : IntKind.i64.wrap ((i : Int) + 1) = ((i + 1 : Nat) : Int) := by rw [z29 (by omega)]; simp
        obtain ⟨x, hx⟩ : ∃ x, k.dishes[i]? = some x := ⟨_, List.getElem?_eq_getElem hlt⟩
        have g1 := z113 hx
        rw [Dish.row] at g1
        have hni : ¬ ((i : Int) < 0) := by omega
        have hxn := hs.needs x (List.mem_of_getElem? hx)
        have e3 : x.needs.length ≤ 549755813888 := by omega
        have hh2 : headIs 1 (intRows x.needs) = true := by cases x.needs <;> rfl
        have hlt2 : (k.dishes.take i).length + 1 ≤ 549755813888 := by rw [List.length_take]; omega
        have htk : dishRows (k.dishes.take i) ++ [[.sl (intRows x.needs)]] = dishRows (k.dishes.take (i + 1)) := by rw [List.take_add_one, hx]; simp [dishRows, Dish.row]
        repeat (first | refine z21 ?_ | refine z16 ?_ | refine z14 ?_ | (refine z12 fun K hK => ?_; simp (maxSteps := 4000000) only [go_sem]; refine hK _ ?_; clear hK K) | refine z20 ?_ | refine z22 ?_ | refine z17 ?_ | refine z15 ?_ | refine z13 rfl ?_ | refine z19 ?_ | refine z10 ?_ | refine z23 ?_ | refine z18 ?_ | refine z11 ?_)
        refine z148 [31] (by kernel_rfl) (by kernel_rfl) fun K hK => ?_
        simp (maxSteps := 4000000) only [go_sem, k2, g1, hni, e3, hh2, hlt2, htk, List.nil_append, List.length_nil, Nat.zero_add]
        refine ⟨by kernel_rfl, hK _ ?_⟩
        clear hK K
        repeat (first | refine z21 ?_ | refine z16 ?_ | refine z14 ?_ | (refine z12 fun K hK => ?_; simp (maxSteps := 4000000) only [go_sem, hw]; refine hK _ ?_; clear hK K) | refine z20 ?_ | refine z22 ?_ | refine z17 ?_ | refine z15 ?_ | refine z13 rfl ?_ | refine z19 ?_ | refine z10 ?_ | refine z23 ?_ | refine z18 ?_ | refine z11 ?_)
        refine ⟨rfl, i + 1, ?_, hlt, by omega⟩
        refine z26 [] ?_ ?_ rfl rfl <;> simp [lessT, lessM, lessB, AV.less]
        all_goals first | done | rfl | trace_state
      · have he : i = k.dishes.length := by (have : ¬ i < k.dishes.length := by simpa using hb); omega
        subst he
        rw [List.take_length]
        repeat (first | refine z21 ?_ | refine z16 ?_ | refine z14 ?_ | (refine z12 fun K hK => ?_; simp (maxSteps := 4000000) only [go_sem]; refine hK _ ?_; clear hK K) | refine z20 ?_ | refine z22 ?_ | refine z17 ?_ | refine z15 ?_ | refine z13 rfl ?_ | refine z19 ?_ | refine z10 ?_ | refine z23 ?_ | refine z18 ?_ | refine z11 ?_)
        refine z28 (fun (i : Nat) => [(5, .d (.i (i : Int)))]) (fun i => [(3, some (.box [.own 6, .own 10, .own 34, .own 53])), (53, some (.arr 58 1 (dayRows (k.days.take i))))]) (fun i => i ≤ k.days.length) (fun i => k.days.length - i) 0 ?_ (Nat.zero_le _) ?_
        · simp (maxSteps := 4000000) only [go_sem]
          refine z26 [53] ?_ ?_ rfl rfl <;> simp [lessT, lessM, lessB, AV.less, dayRows]
        · intro i hi
          simp (maxSteps := 4000000) only [go_sem]
          repeat (first | refine z21 ?_ | refine z16 ?_ | refine z14 ?_ | (refine z12 fun K hK => ?_; simp (maxSteps := 4000000) only [go_sem, k3]; refine hK _ ?_; clear hK K) | refine z20 ?_ | refine z22 ?_ | refine z17 ?_ | refine z15 ?_ | refine z13 rfl ?_ | refine z19 ?_ | refine z10 ?_ | refine z23 ?_ | refine z18 ?_ | refine z11 ?_)
          refine z27 rfl (fun hb => ?_) (fun hb => ?_)
          · have hlt : i < k.days.length := by simpa using hb
            have hw : IntKind.i64.wrap ((i : Int) + 1) = ((i + 1 : Nat) : Int) := by rw [z29 (by omega)]; simp
            obtain ⟨x, hx⟩ : ∃ x, k.days[i]? = some x := ⟨_, List.getElem?_eq_getElem hlt⟩
            have g1 := z77 hx
            have hni : ¬ ((i : Int) < 0) := by omega
            have hxn := hs.groups x (List.mem_of_getElem? hx)
            have e3 : x.length ≤ 549755813888 := by omega
            have hh2 : headIs 3 (dinRows x) = true := by cases x <;> rfl
            have hlt2 : (k.days.take i).length + 1 ≤ 549755813888 := by rw [List.length_take]; omega
            have htk : dayRows (k.days.take i) ++ [[.sl (dinRows x)]] = dayRows (k.days.take (i + 1)) := by rw [List.take_add_one, hx]; simp [dayRows]
            repeat (first | refine z21 ?_ | refine z16 ?_ | refine z14 ?_ | (refine z12 fun K hK => ?_; simp (maxSteps := 4000000) only [go_sem]; refine hK _ ?_; clear hK K) | refine z20 ?_ | refine z22 ?_ | refine z17 ?_ | refine z15 ?_ | refine z13 rfl ?_ | refine z19 ?_ | refine z10 ?_ | refine z23 ?_ | refine z18 ?_ | refine z11 ?_)
            refine z148 [51] (by kernel_rfl) (by kernel_rfl) fun K hK => ?_
            simp (maxSteps := 4000000) only [go_sem, k3, g1, hni, e3, hh2, hlt2, htk, List.nil_append, List.length_nil, Nat.zero_add]
            refine ⟨by kernel_rfl, hK _ ?_⟩
            clear hK K
            repeat (first | refine z21 ?_ | refine z16 ?_ | refine z14 ?_ | (refine z12 fun K hK => ?_; simp (maxSteps := 4000000) only [go_sem, hw]; refine hK _ ?_; clear hK K) | refine z20 ?_ | refine z22 ?_ | refine z17 ?_ | refine z15 ?_ | refine z13 rfl ?_ | refine z19 ?_ | refine z10 ?_ | refine z23 ?_ | refine z18 ?_ | refine z11 ?_)
            refine ⟨rfl, i + 1, ?_, hlt, by omega⟩
            refine z26 [] ?_ ?_ rfl rfl <;> simp [lessT, lessM, lessB, AV.less]
            all_goals first | done | rfl | trace_state
          · have he : i = k.days.length := by (have : ¬ i < k.days.length := by simpa using hb); omega
            subst he
            rw [List.take_length]
            repeat (first | refine z21 ?_ | refine z16 ?_ | refine z14 ?_ | (refine z12 fun K hK => ?_; simp (maxSteps := 4000000) only [go_sem]; refine hK _ ?_; clear hK K) | refine z20 ?_ | refine z22 ?_ | refine z17 ?_ | refine z15 ?_ | refine z13 rfl ?_ | refine z19 ?_ | refine z10 ?_ | refine z23 ?_ | refine z18 ?_ | refine z11 ?_)
            simp (maxSteps := 4000000) only [go_sem, retG]
end Go.Ab
namespace Go.Ab
open Go.RowKit Go.Proofs
set_option maxHeartbeats 16000000
set_option maxRecDepth 20000
attribute [local irreducible] WalkL Walk
def easeCells (mg ma ml bt am la : Int) : List DV := [.i mg, .i ma, .i ml, .i bt, .i am, .i la]
theorem good_kitE {k : Kitchen} (hg : KitGood k) : kitE k = 0 := by
  rw [z79]
  simp only [badKit, Bool.or_eq_false_iff, Bool.not_eq_false', decide_eq_false_iff_not, List.all_eq_true]
  have h1 := hg.goods
  have h2 := hg.batches
  have h3 := hg.dishes
  have h4 := hg.days
  refine ⟨z39.2 (by omega), fun n hn => z39.2 (hg.allerg n hn), by omega, fun b hb => ?_, z39.2 (by omega), fun d hd => ?_, z39.2 (by omega), fun d hd => ?_⟩
  · obtain ⟨a, b, c⟩ := hg.batch _ hb
    simp only [batchB, Bool.and_eq_true]
    exact ⟨z39.2 (by omega), z39.2 b, z39.2 c⟩
  · obtain ⟨a, b⟩ := hg.needs _ hd
    simp only [dishB, Bool.and_eq_true, beq_iff_eq, List.all_eq_true]
    exact ⟨by omega, fun n hn => z39.2 (b n hn)⟩
  · obtain ⟨a, b⟩ := hg.groups _ hd
    simp only [dayB, Bool.and_eq_true, decide_eq_true_eq, List.all_eq_true]
    refine ⟨by omega, fun g hgm => ?_⟩
    simp only [groupB, Bool.and_eq_true, decide_eq_true_eq]
    exact ⟨z39.2 (b g hgm).1, (b g hgm).2⟩
theorem zf8 (k : Kitchen) (M : List (List Int)) (mg ma ml bt am la : Int) (hs : KitSmall k) (hM : M.length < 2 ^ 30) (hMr : ∀ r ∈ M, r.length < 2 ^ 30) : Fn Try.prog 8 [.agg k.cells, .sl (listRows M), .agg (easeCells mg ma ml bt am la)] (.bool true) := by
  have h22 := zf22 k hs
  have h13 := zf13
  have h12 := zf12 M hM
  cases q1 : readyB k with
  | false =>
    rw [q1] at h22
    rw [Kitchen.cells] at h22 ⊢
    refine z30 139 Try.call8 Try.func8 rfl (by decide) fun J => ?_
    simp (maxSteps := 4000000) only [go_sem, St.start, Try.ntmps8, Try.results8, easeCells]
    repeat (first | refine z25 rfl ?_ | refine z24 rfl ?_ | refine z21 ?_ | refine z16 ?_ | refine z14 ?_ | (refine z12 fun K hK => ?_; simp (maxSteps := 4000000) only [go_sem]; (repeat (first | (refine ⟨_, .lent (hf := h22) (hd := rfl) (hr := rfl), ?_⟩; simp (maxSteps := 4000000) only [go_sem]) | (refine ⟨_, .lent (hf := h13) (hd := rfl) (hr := rfl), ?_⟩; simp (maxSteps := 4000000) only [go_sem]) | (refine ⟨_, .given (hf := h22) (hd := rfl) (ha := rfl), ?_⟩; simp (maxSteps := 4000000) only [go_sem]) | (refine ⟨_, .given (hf := h13) (hd := rfl) (ha := rfl), ?_⟩; simp (maxSteps := 4000000) only [go_sem]))); refine hK _ ?_; clear hK K) | refine z20 ?_ | refine z22 ?_ | refine z17 ?_ | refine z15 ?_ | refine z13 rfl ?_ | refine z19 ?_ | refine z10 ?_ | refine z23 ?_ | refine z18 ?_ | refine z11 ?_)
    simp (maxSteps := 4000000) only [go_sem]
  | true =>
  rw [q1] at h22
  cases q2 : farRows M with
  | true =>
    rw [q2] at h12
    rw [Kitchen.cells] at h22 ⊢
    refine z30 139 Try.call8 Try.func8 rfl (by decide) fun J => ?_
    simp (maxSteps := 4000000) only [go_sem, St.start, Try.ntmps8, Try.results8, easeCells]
    repeat (first | refine z25 rfl ?_ | refine z24 rfl ?_ | refine z21 ?_ | refine z16 ?_ | refine z14 ?_ | (refine z12 fun K hK => ?_; simp (maxSteps := 4000000) only [go_sem]; (repeat (first | (refine ⟨_, .lent (hf := h22) (hd := rfl) (hr := rfl), ?_⟩; simp (maxSteps := 4000000) only [go_sem]) | (refine ⟨_, .lent (hf := h12) (hd := rfl) (hr := rfl), ?_⟩; simp (maxSteps := 4000000) only [go_sem]) | (refine ⟨_, .lent (hf := h13) (hd := rfl) (hr := rfl), ?_⟩; simp (maxSteps := 4000000) only [go_sem]) | (refine ⟨_, .given (hf := h22) (hd := rfl) (ha := rfl), ?_⟩; simp (maxSteps := 4000000) only [go_sem]) | (refine ⟨_, .given (hf := h12) (hd := rfl) (ha := rfl), ?_⟩; simp (maxSteps := 4000000) only [go_sem]) | (refine ⟨_, .given (hf := h13) (hd := rfl) (ha := rfl), ?_⟩; simp (maxSteps := 4000000) only [go_sem]))); refine hK _ ?_; clear hK K) | refine z20 ?_ | refine z22 ?_ | refine z17 ?_ | refine z15 ?_ | refine z13 rfl ?_ | refine z19 ?_ | refine z10 ?_ | refine z23 ?_ | refine z18 ?_ | refine z11 ?_)
    simp (maxSteps := 4000000) only [go_sem]
  | false =>
  rw [q2] at h12
  have hr := q1
  simp only [readyB, Bool.and_eq_true, beq_iff_eq] at hr
  have h0 := hr.2
  have hg : KitGood k := z94 (z79.1 h0)
  have h23 := zf23 k hg M hM hMr
  cases q4 : shapedB (menuB k) M k.days with
  | false =>
    rw [q4] at h23
    rw [Kitchen.cells] at h22 h23 ⊢
    refine z30 139 Try.call8 Try.func8 rfl (by decide) fun J => ?_
    simp (maxSteps := 4000000) only [go_sem, St.start, Try.ntmps8, Try.results8, easeCells]
    repeat (first | refine z25 rfl ?_ | refine z24 rfl ?_ | refine z21 ?_ | refine z16 ?_ | refine z14 ?_ | (refine z12 fun K hK => ?_; simp (maxSteps := 4000000) only [go_sem]; (repeat (first | (refine ⟨_, .lent (hf := h22) (hd := rfl) (hr := rfl), ?_⟩; simp (maxSteps := 4000000) only [go_sem]) | (refine ⟨_, .lent (hf := h12) (hd := rfl) (hr := rfl), ?_⟩; simp (maxSteps := 4000000) only [go_sem]) | (refine ⟨_, .lent (hf := h23) (hd := rfl) (hr := rfl), ?_⟩; simp (maxSteps := 4000000) only [go_sem]) | (refine ⟨_, .lent (hf := h13) (hd := rfl) (hr := rfl), ?_⟩; simp (maxSteps := 4000000) only [go_sem]) | (refine ⟨_, .given (hf := h22) (hd := rfl) (ha := rfl), ?_⟩; simp (maxSteps := 4000000) only [go_sem]) | (refine ⟨_, .given (hf := h12) (hd := rfl) (ha := rfl), ?_⟩; simp (maxSteps := 4000000) only [go_sem]) | (refine ⟨_, .given (hf := h23) (hd := rfl) (ha := rfl), ?_⟩; simp (maxSteps := 4000000) only [go_sem]) | (refine ⟨_, .given (hf := h13) (hd := rfl) (ha := rfl), ?_⟩; simp (maxSteps := 4000000) only [go_sem]))); refine hK _ ?_; clear hK K) | refine z20 ?_ | refine z22 ?_ | refine z17 ?_ | refine z15 ?_ | refine z13 rfl ?_ | refine z19 ?_ | refine z10 ?_ | refine z23 ?_ | refine z18 ?_ | refine z11 ?_)
    simp (maxSteps := 4000000) only [go_sem]
  | true =>
  rw [q4] at h23
  by_cases n1 : am < 0
  · have d1 : decide (am < 0) = true := decide_eq_true n1
    rw [Kitchen.cells] at h22 h23 ⊢
    refine z30 139 Try.call8 Try.func8 rfl (by decide) fun J => ?_
    simp (maxSteps := 4000000) only [go_sem, St.start, Try.ntmps8, Try.results8, easeCells]
    repeat (first | refine z25 rfl ?_ | refine z24 rfl ?_ | refine z21 ?_ | refine z16 ?_ | refine z14 ?_ | (refine z12 fun K hK => ?_; simp (maxSteps := 4000000) only [go_sem, d1]; (repeat (first | (refine ⟨_, .lent (hf := h22) (hd := rfl) (hr := rfl), ?_⟩; simp (maxSteps := 4000000) only [go_sem, d1]) | (refine ⟨_, .lent (hf := h12) (hd := rfl) (hr := rfl), ?_⟩; simp (maxSteps := 4000000) only [go_sem, d1]) | (refine ⟨_, .lent (hf := h23) (hd := rfl) (hr := rfl), ?_⟩; simp (maxSteps := 4000000) only [go_sem, d1]) | (refine ⟨_, .lent (hf := h13) (hd := rfl) (hr := rfl), ?_⟩; simp (maxSteps := 4000000) only [go_sem, d1]) | (refine ⟨_, .given (hf := h22) (hd := rfl) (ha := rfl), ?_⟩; simp (maxSteps := 4000000) only [go_sem, d1]) | (refine ⟨_, .given (hf := h12) (hd := rfl) (ha := rfl), ?_⟩; simp (maxSteps := 4000000) only [go_sem, d1]) | (refine ⟨_, .given (hf := h23) (hd := rfl) (ha := rfl), ?_⟩; simp (maxSteps := 4000000) only [go_sem, d1]) | (refine ⟨_, .given (hf := h13) (hd := rfl) (ha := rfl), ?_⟩; simp (maxSteps := 4000000) only [go_sem, d1]))); refine hK _ ?_; clear hK K) | refine z20 ?_ | refine z22 ?_ | refine z17 ?_ | refine z15 ?_ | refine z13 rfl ?_ | refine z19 ?_ | refine z10 ?_ | refine z23 ?_ | refine z18 ?_ | refine z11 ?_)
    simp (maxSteps := 4000000) only [go_sem]
  have d1 : decide (am < 0) = false := decide_eq_false n1
  by_cases n2 : am > 1000000
  · have d2 : decide (am > 1000000) = true := decide_eq_true n2
    rw [Kitchen.cells] at h22 h23 ⊢
    refine z30 139 Try.call8 Try.func8 rfl (by decide) fun J => ?_
    simp (maxSteps := 4000000) only [go_sem, St.start, Try.ntmps8, Try.results8, easeCells]
    repeat (first | refine z25 rfl ?_ | refine z24 rfl ?_ | refine z21 ?_ | refine z16 ?_ | refine z14 ?_ | (refine z12 fun K hK => ?_; simp (maxSteps := 4000000) only [go_sem, d1, d2]; (repeat (first | (refine ⟨_, .lent (hf := h22) (hd := rfl) (hr := rfl), ?_⟩; simp (maxSteps := 4000000) only [go_sem, d1, d2]) | (refine ⟨_, .lent (hf := h12) (hd := rfl) (hr := rfl), ?_⟩; simp (maxSteps := 4000000) only [go_sem, d1, d2]) | (refine ⟨_, .lent (hf := h23) (hd := rfl) (hr := rfl), ?_⟩; simp (maxSteps := 4000000) only [go_sem, d1, d2]) | (refine ⟨_, .lent (hf := h13) (hd := rfl) (hr := rfl), ?_⟩; simp (maxSteps := 4000000) only [go_sem, d1, d2]) | (refine ⟨_, .given (hf := h22) (hd := rfl) (ha := rfl), ?_⟩; simp (maxSteps := 4000000) only [go_sem, d1, d2]) | (refine ⟨_, .given (hf := h12) (hd := rfl) (ha := rfl), ?_⟩; simp (maxSteps := 4000000) only [go_sem, d1, d2]) | (refine ⟨_, .given (hf := h23) (hd := rfl) (ha := rfl), ?_⟩; simp (maxSteps := 4000000) only [go_sem, d1, d2]) | (refine ⟨_, .given (hf := h13) (hd := rfl) (ha := rfl), ?_⟩; simp (maxSteps := 4000000) only [go_sem, d1, d2]))); refine hK _ ?_; clear hK K) | refine z20 ?_ | refine z22 ?_ | refine z17 ?_ | refine z15 ?_ | refine z13 rfl ?_ | refine z19 ?_ | refine z10 ?_ | refine z23 ?_ | refine z18 ?_ | refine z11 ?_)
    simp (maxSteps := 4000000) only [go_sem]
  have d2 : decide (am > 1000000) = false := decide_eq_false n2
  by_cases n3 : la < 0
  · have d3 : decide (la < 0) = true := decide_eq_true n3
    rw [Kitchen.cells] at h22 h23 ⊢
    refine z30 139 Try.call8 Try.func8 rfl (by decide) fun J => ?_
    simp (maxSteps := 4000000) only [go_sem, St.start, Try.ntmps8, Try.results8, easeCells]
    repeat (first | refine z25 rfl ?_ | refine z24 rfl ?_ | refine z21 ?_ | refine z16 ?_ | refine z14 ?_ | (refine z12 fun K hK => ?_; simp (maxSteps := 4000000) only [go_sem, d1, d2, d3]; (repeat (first | (refine ⟨_, .lent (hf := h22) (hd := rfl) (hr := rfl), ?_⟩; simp (maxSteps := 4000000) only [go_sem, d1, d2, d3]) | (refine ⟨_, .lent (hf := h12) (hd := rfl) (hr := rfl), ?_⟩; simp (maxSteps := 4000000) only [go_sem, d1, d2, d3]) | (refine ⟨_, .lent (hf := h23) (hd := rfl) (hr := rfl), ?_⟩; simp (maxSteps := 4000000) only [go_sem, d1, d2, d3]) | (refine ⟨_, .lent (hf := h13) (hd := rfl) (hr := rfl), ?_⟩; simp (maxSteps := 4000000) only [go_sem, d1, d2, d3]) | (refine ⟨_, .given (hf := h22) (hd := rfl) (ha := rfl), ?_⟩; simp (maxSteps := 4000000) only [go_sem, d1, d2, d3]) | (refine ⟨_, .given (hf := h12) (hd := rfl) (ha := rfl), ?_⟩; simp (maxSteps := 4000000) only [go_sem, d1, d2, d3]) | (refine ⟨_, .given (hf := h23) (hd := rfl) (ha := rfl), ?_⟩; simp (maxSteps := 4000000) only [go_sem, d1, d2, d3]) | (refine ⟨_, .given (hf := h13) (hd := rfl) (ha := rfl), ?_⟩; simp (maxSteps := 4000000) only [go_sem, d1, d2, d3]))); refine hK _ ?_; clear hK K) | refine z20 ?_ | refine z22 ?_ | refine z17 ?_ | refine z15 ?_ | refine z13 rfl ?_ | refine z19 ?_ | refine z10 ?_ | refine z23 ?_ | refine z18 ?_ | refine z11 ?_)
    simp (maxSteps := 4000000) only [go_sem]
  have d3 : decide (la < 0) = false := decide_eq_false n3
  by_cases n4 : la > 100
  · have d4 : decide (la > 100) = true := decide_eq_true n4
    rw [Kitchen.cells] at h22 h23 ⊢
    refine z30 139 Try.call8 Try.func8 rfl (by decide) fun J => ?_
    simp (maxSteps := 4000000) only [go_sem, St.start, Try.ntmps8, Try.results8, easeCells]
    repeat (first | refine z25 rfl ?_ | refine z24 rfl ?_ | refine z21 ?_ | refine z16 ?_ | refine z14 ?_ | (refine z12 fun K hK => ?_; simp (maxSteps := 4000000) only [go_sem, d1, d2, d3, d4]; (repeat (first | (refine ⟨_, .lent (hf := h22) (hd := rfl) (hr := rfl), ?_⟩; simp (maxSteps := 4000000) only [go_sem, d1, d2, d3, d4]) | (refine ⟨_, .lent (hf := h12) (hd := rfl) (hr := rfl), ?_⟩; simp (maxSteps := 4000000) only [go_sem, d1, d2, d3, d4]) | (refine ⟨_, .lent (hf := h23) (hd := rfl) (hr := rfl), ?_⟩; simp (maxSteps := 4000000) only [go_sem, d1, d2, d3, d4]) | (refine ⟨_, .lent (hf := h13) (hd := rfl) (hr := rfl), ?_⟩; simp (maxSteps := 4000000) only [go_sem, d1, d2, d3, d4]) | (refine ⟨_, .given (hf := h22) (hd := rfl) (ha := rfl), ?_⟩; simp (maxSteps := 4000000) only [go_sem, d1, d2, d3, d4]) | (refine ⟨_, .given (hf := h12) (hd := rfl) (ha := rfl), ?_⟩; simp (maxSteps := 4000000) only [go_sem, d1, d2, d3, d4]) | (refine ⟨_, .given (hf := h23) (hd := rfl) (ha := rfl), ?_⟩; simp (maxSteps := 4000000) only [go_sem, d1, d2, d3, d4]) | (refine ⟨_, .given (hf := h13) (hd := rfl) (ha := rfl), ?_⟩; simp (maxSteps := 4000000) only [go_sem, d1, d2, d3, d4]))); refine hK _ ?_; clear hK K) | refine z20 ?_ | refine z22 ?_ | refine z17 ?_ | refine z15 ?_ | refine z13 rfl ?_ | refine z19 ?_ | refine z10 ?_ | refine z23 ?_ | refine z18 ?_ | refine z11 ?_)
    simp (maxSteps := 4000000) only [go_sem]
  have d4 : decide (la > 100) = false := decide_eq_false n4
  have h14 := zf14m k hs
  have hbl := hg.batches
  have hop : openK k M = 0 := by rw [openK, if_pos h0, if_pos q4]
  have h27 := zf27 k M hs hM hMr
  rw [if_pos hop] at h27
  rw [Kitchen.cells] at h22 h23 h14 h27 ⊢
  refine z30 139 Try.call8 Try.func8 rfl (by decide) fun J => ?_
  simp (maxSteps := 4000000) only [go_sem, St.start, Try.ntmps8, Try.results8, easeCells]
  repeat (first | refine z25 rfl ?_ | refine z24 rfl ?_ | refine z21 ?_ | refine z16 ?_ | refine z14 ?_ | (refine z12 fun K hK => ?_; simp (maxSteps := 4000000) only [go_sem, d1, d2, d3, d4]; (repeat (first | (refine ⟨_, .lent (hf := h22) (hd := rfl) (hr := rfl), ?_⟩; simp (maxSteps := 4000000) only [go_sem, d1, d2, d3, d4]) | (refine ⟨_, .lent (hf := h12) (hd := rfl) (hr := rfl), ?_⟩; simp (maxSteps := 4000000) only [go_sem, d1, d2, d3, d4]) | (refine ⟨_, .lent (hf := h23) (hd := rfl) (hr := rfl), ?_⟩; simp (maxSteps := 4000000) only [go_sem, d1, d2, d3, d4]) | (refine ⟨_, .given (hf := h22) (hd := rfl) (ha := rfl), ?_⟩; simp (maxSteps := 4000000) only [go_sem, d1, d2, d3, d4]) | (refine ⟨_, .given (hf := h12) (hd := rfl) (ha := rfl), ?_⟩; simp (maxSteps := 4000000) only [go_sem, d1, d2, d3, d4]) | (refine ⟨_, .given (hf := h23) (hd := rfl) (ha := rfl), ?_⟩; simp (maxSteps := 4000000) only [go_sem, d1, d2, d3, d4]))); refine hK _ ?_; clear hK K) | refine z20 ?_ | refine z22 ?_ | refine z17 ?_ | refine z15 ?_ | refine z13 rfl ?_ | refine z19 ?_ | refine z10 ?_ | refine z23 ?_ | refine z18 ?_ | refine z11 ?_)
  refine z12 fun K hK => ?_
  simp (maxSteps := 4000000) only [go_sem]
  refine ⟨_, .made (news := [15, 16, 17, 18]) (hf := h14) (hd := rfl) (hn := by decide) (hl := rfl) (hnew := rfl) (hx := rfl), ?_⟩
  simp (maxSteps := 4000000) only [go_sem, List.map_cons, List.map_nil]
  refine hK _ ?_
  clear hK K
  by_cases hin : 0 ≤ bt ∧ bt < k.batches.length
  · obtain ⟨n, rfl⟩ : ∃ n : Nat, bt = (n : Int) := ⟨bt.toNat, by omega⟩
    have hn : n < k.batches.length := by omega
    have d5 : decide ((n : Int) ≥ 0) = true := decide_eq_true (by omega)
    have d6 : decide ((n : Int) < (k.batches.length : Int)) = true := decide_eq_true (by omega)
    have gb := z209 hn
    rw [Batch.row] at gb
    have hb := bat_ok hg hn
    have hnn : ¬ ((n : Int) < 0) := by omega
    have w1 : IntKind.i64.wrap ((batAt k n).amount + am) = (batAt k n).amount + am := z29 (by omega)
    have w2 : IntKind.i64.wrap ((batAt k n).last + la) = (batAt k n).last + la := z29 (by omega)
    obtain ⟨B1, hB1⟩ : ∃ B, B = k.batches.set n (upB (batAt k n) am la) := ⟨_, rfl⟩
    have hst : (batRows k.batches).set n [.i (batAt k n).good, .i (min 1000000 ((batAt k n).amount + am)), .i (min 30 ((batAt k n).last + la))] = batRows B1 := by rw [hB1, batRows, batRows, List.map_set]; rfl
    have hget : k.batches[n]? = some (batAt k n) := by rw [batAt, List.getD_eq_getElem?_getD, List.getElem?_eq_getElem hn]; rfl
    have hv : ∀ g t, sB (fB g t) k.batches ≤ sB (fB g t) B1 := fun g t => by
      rw [hB1]
      exact sB_set _ _ _ _ _ hget (fB_up ⟨hb.2.1.2, hb.2.2.2, hb.2.1.1⟩ (by omega) (by omega) g t)
    have hgB : KitGood { k with batches := B1 } := kit_batches hg (by rw [hB1]; simpa using hbl) fun b hbm => by
      rw [hB1] at hbm
      rcases List.mem_or_eq_of_mem_set hbm with hbm | rfl
      · exact hg.batch b hbm
      · refine ⟨hb.1, ⟨?_, ?_⟩, ?_, ?_⟩ <;> dsimp only [upB] <;> omega
    have hkB : kitE { k with batches := B1 } = 0 := good_kitE hgB
    have hB1l : B1.length ≤ 10 := by rw [hB1]; simpa using hbl
    have hap : batRows B1 ++ [[.i mg, .i ma, .i ml]] = batRows (B1 ++ [⟨mg, ma, ml⟩]) := by simp [batRows, Batch.row]
    have hn1 : B1.length + 1 ≤ 549755813888 := by omega
    have hl3 : (B1 ++ [(⟨mg, ma, ml⟩ : Batch)]).length = B1.length + 1 := by simp
    have hs3 : KitSmall { k with batches := B1 ++ [⟨mg, ma, ml⟩] } := ⟨hs.allerg, by rw [hl3]; omega, hs.dishes, hs.needs, hs.days, hs.groups⟩
    have hsB : KitSmall { k with batches := B1 } := ⟨hs.allerg, by show B1.length < 2 ^ 30; omega, hs.dishes, hs.needs, hs.days, hs.groups⟩
    have h32 := zf32 { k with batches := B1 ++ [⟨mg, ma, ml⟩] } hs3
    repeat (first | refine z25 rfl ?_ | refine z24 rfl ?_ | refine z21 ?_ | refine z16 ?_ | refine z14 ?_ | (refine z12 fun K hK => ?_; simp (maxSteps := 4000000) only [go_sem, d5, d6, gb, hnn, hn, w1, w2, hst]; refine hK _ ?_; clear hK K) | refine z20 ?_ | refine z22 ?_ | refine z17 ?_ | refine z15 ?_ | refine z13 rfl ?_ | refine z19 ?_ | refine z10 ?_ | refine z23 ?_ | refine z18 ?_ | refine z11 ?_)
    repeat (first | refine z21 ?_ | refine z16 ?_ | refine z14 ?_ | (refine z12 fun K hK => ?_; simp (maxSteps := 4000000) only [go_sem, hB1l, hap, hn1]; refine hK _ ?_; clear hK K) | refine z20 ?_ | refine z22 ?_ | refine z17 ?_ | refine z15 ?_ | refine z13 rfl ?_ | refine z19 ?_ | refine z10 ?_ | refine z23 ?_ | refine z18 ?_ | refine z11 ?_)
    cases q9 : (kitE { k with batches := B1 ++ [⟨mg, ma, ml⟩] } == 0) with
    | true =>
      have q9' := beq_iff_eq.1 q9
      have hg2 : KitGood { k with batches := B1 ++ [⟨mg, ma, ml⟩] } := z94 (z79.1 q9')
      have hv2 : ∀ g t, sB (fB g t) k.batches ≤ sB (fB g t) (B1 ++ [⟨mg, ma, ml⟩]) := fun g t => by
        rw [z192]
        have := hv g t
        have := z302 (hg2.batch ⟨mg, ma, ml⟩ (by simp)).2.1.1 g t
        simp only [sB]
        omega
      obtain ⟨l1, l2⟩ := z198 hg hg2 q4 hv2
      have h27b := zf27 { k with batches := B1 ++ [⟨mg, ma, ml⟩] } M hs3 hM hMr
      rw [if_pos (show openK { k with batches := B1 ++ [⟨mg, ma, ml⟩] } M = 0 by rw [openK, if_pos q9']; exact if_pos q4)] at h27b
      obtain ⟨a1, ha1⟩ : ∃ a, a = mostK k M := ⟨_, rfl⟩
      obtain ⟨a2, ha2⟩ : ∃ a, a = leastK k M := ⟨_, rfl⟩
      obtain ⟨a3, ha3⟩ : ∃ a, a = mostK { k with batches := B1 ++ [⟨mg, ma, ml⟩] } M := ⟨_, rfl⟩
      obtain ⟨a4, ha4⟩ : ∃ a, a = leastK { k with batches := B1 ++ [⟨mg, ma, ml⟩] } M := ⟨_, rfl⟩
      rw [← ha1, ← ha2] at h27
      rw [← ha3, ← ha4] at h27b
      rw [← ha1, ← ha3] at l1
      rw [← ha2, ← ha4] at l2
      have e1 : decide ((a3 : Int) ≥ (a1 : Int)) = true := decide_eq_true (by omega)
      have e2 : decide ((a4 : Int) ≥ (a2 : Int)) = true := decide_eq_true (by omega)
      rw [q9'] at h32
      rw [Kitchen.cells] at h32 h27b
      repeat (first | refine z25 rfl ?_ | refine z24 rfl ?_ | refine z21 ?_ | refine z16 ?_ | refine z14 ?_ | (refine z12 fun K hK => ?_; simp (maxSteps := 4000000) only [go_sem, e1, e2]; (repeat (first | (refine ⟨_, .lent (hf := h32) (hd := rfl) (hr := rfl), ?_⟩; simp (maxSteps := 4000000) only [go_sem, e1, e2]) | (refine ⟨_, .lent (hf := h27) (hd := rfl) (hr := rfl), ?_⟩; simp (maxSteps := 4000000) only [go_sem, e1, e2]) | (refine ⟨_, .lent (hf := h27b) (hd := rfl) (hr := rfl), ?_⟩; simp (maxSteps := 4000000) only [go_sem, e1, e2]) | (refine ⟨_, .lent (hf := h13) (hd := rfl) (hr := rfl), ?_⟩; simp (maxSteps := 4000000) only [go_sem, e1, e2]) | (refine ⟨_, .given (hf := h32) (hd := rfl) (ha := rfl), ?_⟩; simp (maxSteps := 4000000) only [go_sem, e1, e2]) | (refine ⟨_, .given (hf := h27) (hd := rfl) (ha := rfl), ?_⟩; simp (maxSteps := 4000000) only [go_sem, e1, e2]) | (refine ⟨_, .given (hf := h27b) (hd := rfl) (ha := rfl), ?_⟩; simp (maxSteps := 4000000) only [go_sem, e1, e2]) | (refine ⟨_, .given (hf := h13) (hd := rfl) (ha := rfl), ?_⟩; simp (maxSteps := 4000000) only [go_sem, e1, e2]))); refine hK _ ?_; clear hK K) | refine z20 ?_ | refine z22 ?_ | refine z17 ?_ | refine z15 ?_ | refine z13 rfl ?_ | refine z19 ?_ | refine z10 ?_ | refine z23 ?_ | refine z18 ?_ | refine z11 ?_)
      simp (maxSteps := 4000000) only [go_sem]
    | false =>
      have q9b : (kitE { k with batches := B1 ++ [⟨mg, ma, ml⟩] } != 0) = true := by rw [bne, q9]; rfl
      obtain ⟨l1, l2⟩ := z198 hg hgB q4 hv
      have h27b := zf27 { k with batches := B1 } M hsB hM hMr
      rw [if_pos (show openK { k with batches := B1 } M = 0 by rw [openK, if_pos hkB]; exact if_pos q4)] at h27b
      obtain ⟨a1, ha1⟩ : ∃ a, a = mostK k M := ⟨_, rfl⟩
      obtain ⟨a2, ha2⟩ : ∃ a, a = leastK k M := ⟨_, rfl⟩
      obtain ⟨a3, ha3⟩ : ∃ a, a = mostK { k with batches := B1 } M := ⟨_, rfl⟩
      obtain ⟨a4, ha4⟩ : ∃ a, a = leastK { k with batches := B1 } M := ⟨_, rfl⟩
      rw [← ha1, ← ha2] at h27
      rw [← ha3, ← ha4] at h27b
      rw [← ha1, ← ha3] at l1
      rw [← ha2, ← ha4] at l2
      have e1 : decide ((a3 : Int) ≥ (a1 : Int)) = true := decide_eq_true (by omega)
      have e2 : decide ((a4 : Int) ≥ (a2 : Int)) = true := decide_eq_true (by omega)
      have hvl : (batRows (B1 ++ [⟨mg, ma, ml⟩])).take B1.length = batRows B1 := by simp [batRows]
      have hw3 : IntKind.i64.wrap (((B1.length + 1 : Nat) : Int) - 1) = (B1.length : Int) := by rw [z29 (by omega)]; omega
      have hin2 : B1.length ≤ B1.length + 1 := Nat.le_succ _
      have hin : ((B1.length : Int) ≤ ((B1.length + 1 : Nat) : Int)) := by omega
      obtain ⟨kE, hkE⟩ : ∃ e, e = kitE { k with batches := B1 ++ [⟨mg, ma, ml⟩] } := ⟨_, rfl⟩
      rw [← hkE] at h32 q9 q9b
      rw [Kitchen.cells] at h32 h27b
      repeat (first | refine z25 rfl ?_ | refine z24 rfl ?_ | refine z21 ?_ | refine z16 ?_ | refine z14 ?_ | (refine z12 fun K hK => ?_; simp (maxSteps := 4000000) only [go_sem, q9, q9b]; (repeat (first | (refine ⟨_, .lent (hf := h32) (hd := rfl) (hr := rfl), ?_⟩; simp (maxSteps := 4000000) only [go_sem, q9, q9b]) | (refine ⟨_, .given (hf := h32) (hd := rfl) (ha := rfl), ?_⟩; simp (maxSteps := 4000000) only [go_sem, q9, q9b]))); refine hK _ ?_; clear hK K) | refine z20 ?_ | refine z22 ?_ | refine z17 ?_ | refine z15 ?_ | refine z13 rfl ?_ | refine z19 ?_ | refine z10 ?_ | refine z23 ?_ | refine z18 ?_ | refine z11 ?_)
      refine z12 fun K hK => ?_
      simp (maxSteps := 4000000) only [go_sem, hl3, hw3, hin, hvl]
      refine hK _ ?_
      clear hK K
      refine z32 [16] ?_
      simp (maxSteps := 4000000) only [go_sem, List.drop_zero, Nat.sub_zero, hin2, hvl]
      repeat (first | refine z25 rfl ?_ | refine z24 rfl ?_ | refine z21 ?_ | refine z16 ?_ | refine z14 ?_ | (refine z12 fun K hK => ?_; simp (maxSteps := 4000000) only [go_sem, e1, e2]; (repeat (first | (refine ⟨_, .lent (hf := h27) (hd := rfl) (hr := rfl), ?_⟩; simp (maxSteps := 4000000) only [go_sem, e1, e2]) | (refine ⟨_, .lent (hf := h27b) (hd := rfl) (hr := rfl), ?_⟩; simp (maxSteps := 4000000) only [go_sem, e1, e2]) | (refine ⟨_, .lent (hf := h13) (hd := rfl) (hr := rfl), ?_⟩; simp (maxSteps := 4000000) only [go_sem, e1, e2]) | (refine ⟨_, .given (hf := h27) (hd := rfl) (ha := rfl), ?_⟩; simp (maxSteps := 4000000) only [go_sem, e1, e2]) | (refine ⟨_, .given (hf := h27b) (hd := rfl) (ha := rfl), ?_⟩; simp (maxSteps := 4000000) only [go_sem, e1, e2]) | (refine ⟨_, .given (hf := h13) (hd := rfl) (ha := rfl), ?_⟩; simp (maxSteps := 4000000) only [go_sem, e1, e2]))); refine hK _ ?_; clear hK K) | refine z20 ?_ | refine z22 ?_ | refine z17 ?_ | refine z15 ?_ | refine z13 rfl ?_ | refine z19 ?_ | refine z10 ?_ | refine z23 ?_ | refine z18 ?_ | refine z11 ?_)
      simp (maxSteps := 4000000) only [go_sem]
  · have d56 : (decide (bt ≥ 0) = true ∧ decide (bt < (k.batches.length : Int)) = false) ∨ decide (bt ≥ 0) = false := by
      by_cases h : bt ≥ 0
      · exact .inl ⟨decide_eq_true h, decide_eq_false (by omega)⟩
      · exact .inr (decide_eq_false h)
    have hv : ∀ g t, sB (fB g t) k.batches ≤ sB (fB g t) k.batches := fun g t => Int.le_refl _
    have hk.batchesl : k.batches.length ≤ 10 := hbl
    have hap : batRows k.batches ++ [[.i mg, .i ma, .i ml]] = batRows (k.batches ++ [⟨mg, ma, ml⟩]) := by simp [batRows, Batch.row]
    have hn1 : k.batches.length + 1 ≤ 549755813888 := by omega
    have hl3 : (k.batches ++ [(⟨mg, ma, ml⟩ : Batch)]).length = k.batches.length + 1 := by simp
    have hs3 : KitSmall { k with batches := k.batches ++ [⟨mg, ma, ml⟩] } := ⟨hs.allerg, by rw [hl3]; omega, hs.dishes, hs.needs, hs.days, hs.groups⟩
    have hsB : KitSmall { k with batches := k.batches } := ⟨hs.allerg, by show k.batches.length < 2 ^ 30; omega, hs.dishes, hs.needs, hs.days, hs.groups⟩
    have h32 := zf32 { k with batches := k.batches ++ [⟨mg, ma, ml⟩] } hs3
    rcases d56 with ⟨d5, d6⟩ | d5
    · repeat (first | refine z25 rfl ?_ | refine z24 rfl ?_ | refine z21 ?_ | refine z16 ?_ | refine z14 ?_ | (refine z12 fun K hK => ?_; simp (maxSteps := 4000000) only [go_sem, d5, d6]; refine hK _ ?_; clear hK K) | refine z20 ?_ | refine z22 ?_ | refine z17 ?_ | refine z15 ?_ | refine z13 rfl ?_ | refine z19 ?_ | refine z10 ?_ | refine z23 ?_ | refine z18 ?_ | refine z11 ?_)
      repeat (first | refine z21 ?_ | refine z16 ?_ | refine z14 ?_ | (refine z12 fun K hK => ?_; simp (maxSteps := 4000000) only [go_sem, hk.batchesl, hap, hn1]; refine hK _ ?_; clear hK K) | refine z20 ?_ | refine z22 ?_ | refine z17 ?_ | refine z15 ?_ | refine z13 rfl ?_ | refine z19 ?_ | refine z10 ?_ | refine z23 ?_ | refine z18 ?_ | refine z11 ?_)
      cases q9 : (kitE { k with batches := k.batches ++ [⟨mg, ma, ml⟩] } == 0) with
      | true =>
        have q9' := beq_iff_eq.1 q9
        have hg2 : KitGood { k with batches := k.batches ++ [⟨mg, ma, ml⟩] } := z94 (z79.1 q9')
        have hv2 : ∀ g t, sB (fB g t) k.batches ≤ sB (fB g t) (k.batches ++ [⟨mg, ma, ml⟩]) := fun g t => by
          rw [z192]
          have := hv g t
          have := z302 (hg2.batch ⟨mg, ma, ml⟩ (by simp)).2.1.1 g t
          simp only [sB]
          omega
        obtain ⟨l1, l2⟩ := z198 hg hg2 q4 hv2
        have h27b := zf27 { k with batches := k.batches ++ [⟨mg, ma, ml⟩] } M hs3 hM hMr
        rw [if_pos (show openK { k with batches := k.batches ++ [⟨mg, ma, ml⟩] } M = 0 by rw [openK, if_pos q9']; exact if_pos q4)] at h27b
        obtain ⟨a1, ha1⟩ : ∃ a, a = mostK k M := ⟨_, rfl⟩
        obtain ⟨a2, ha2⟩ : ∃ a, a = leastK k M := ⟨_, rfl⟩
        obtain ⟨a3, ha3⟩ : ∃ a, a = mostK { k with batches := k.batches ++ [⟨mg, ma, ml⟩] } M := ⟨_, rfl⟩
        obtain ⟨a4, ha4⟩ : ∃ a, a = leastK { k with batches := k.batches ++ [⟨mg, ma, ml⟩] } M := ⟨_, rfl⟩
        rw [← ha1, ← ha2] at h27
        rw [← ha3, ← ha4] at h27b
        rw [← ha1, ← ha3] at l1
        rw [← ha2, ← ha4] at l2
        have e1 : decide ((a3 : Int) ≥ (a1 : Int)) = true := decide_eq_true (by omega)
        have e2 : decide ((a4 : Int) ≥ (a2 : Int)) = true := decide_eq_true (by omega)
        rw [q9'] at h32
        rw [Kitchen.cells] at h32 h27b
        repeat (first | refine z25 rfl ?_ | refine z24 rfl ?_ | refine z21 ?_ | refine z16 ?_ | refine z14 ?_ | (refine z12 fun K hK => ?_; simp (maxSteps := 4000000) only [go_sem, e1, e2]; (repeat (first | (refine ⟨_, .lent (hf := h32) (hd := rfl) (hr := rfl), ?_⟩; simp (maxSteps := 4000000) only [go_sem, e1, e2]) | (refine ⟨_, .lent (hf := h27) (hd := rfl) (hr := rfl), ?_⟩; simp (maxSteps := 4000000) only [go_sem, e1, e2]) | (refine ⟨_, .lent (hf := h27b) (hd := rfl) (hr := rfl), ?_⟩; simp (maxSteps := 4000000) only [go_sem, e1, e2]) | (refine ⟨_, .lent (hf := h13) (hd := rfl) (hr := rfl), ?_⟩; simp (maxSteps := 4000000) only [go_sem, e1, e2]) | (refine ⟨_, .given (hf := h32) (hd := rfl) (ha := rfl), ?_⟩; simp (maxSteps := 4000000) only [go_sem, e1, e2]) | (refine ⟨_, .given (hf := h27) (hd := rfl) (ha := rfl), ?_⟩; simp (maxSteps := 4000000) only [go_sem, e1, e2]) | (refine ⟨_, .given (hf := h27b) (hd := rfl) (ha := rfl), ?_⟩; simp (maxSteps := 4000000) only [go_sem, e1, e2]) | (refine ⟨_, .given (hf := h13) (hd := rfl) (ha := rfl), ?_⟩; simp (maxSteps := 4000000) only [go_sem, e1, e2]))); refine hK _ ?_; clear hK K) | refine z20 ?_ | refine z22 ?_ | refine z17 ?_ | refine z15 ?_ | refine z13 rfl ?_ | refine z19 ?_ | refine z10 ?_ | refine z23 ?_ | refine z18 ?_ | refine z11 ?_)
        simp (maxSteps := 4000000) only [go_sem]
      | false =>
        have q9b : (kitE { k with batches := k.batches ++ [⟨mg, ma, ml⟩] } != 0) = true := by rw [bne, q9]; rfl
        obtain ⟨a1, ha1⟩ : ∃ a, a = mostK k M := ⟨_, rfl⟩
        obtain ⟨a2, ha2⟩ : ∃ a, a = leastK k M := ⟨_, rfl⟩
        rw [← ha1, ← ha2] at h27
        have e1 : decide ((a1 : Int) ≥ (a1 : Int)) = true := decide_eq_true (by omega)
        have e2 : decide ((a2 : Int) ≥ (a2 : Int)) = true := decide_eq_true (by omega)
        have hvl : (batRows (k.batches ++ [⟨mg, ma, ml⟩])).take k.batches.length = batRows k.batches := by simp [batRows]
        have hw3 : IntKind.i64.wrap (((k.batches.length + 1 : Nat) : Int) - 1) = (k.batches.length : Int) := by rw [z29 (by omega)]; omega
        have hin2 : k.batches.length ≤ k.batches.length + 1 := Nat.le_succ _
        have hin : ((k.batches.length : Int) ≤ ((k.batches.length + 1 : Nat) : Int)) := by omega
        obtain ⟨kE, hkE⟩ : ∃ e, e = kitE { k with batches := k.batches ++ [⟨mg, ma, ml⟩] } := ⟨_, rfl⟩
        rw [← hkE] at h32 q9 q9b
        rw [Kitchen.cells] at h32
        repeat (first | refine z25 rfl ?_ | refine z24 rfl ?_ | refine z21 ?_ | refine z16 ?_ | refine z14 ?_ | (refine z12 fun K hK => ?_; simp (maxSteps := 4000000) only [go_sem, q9, q9b]; (repeat (first | (refine ⟨_, .lent (hf := h32) (hd := rfl) (hr := rfl), ?_⟩; simp (maxSteps := 4000000) only [go_sem, q9, q9b]) | (refine ⟨_, .given (hf := h32) (hd := rfl) (ha := rfl), ?_⟩; simp (maxSteps := 4000000) only [go_sem, q9, q9b]))); refine hK _ ?_; clear hK K) | refine z20 ?_ | refine z22 ?_ | refine z17 ?_ | refine z15 ?_ | refine z13 rfl ?_ | refine z19 ?_ | refine z10 ?_ | refine z23 ?_ | refine z18 ?_ | refine z11 ?_)
        refine z12 fun K hK => ?_
        simp (maxSteps := 4000000) only [go_sem, hl3, hw3, hin, hvl]
        refine hK _ ?_
        clear hK K
        refine z32 [16] ?_
        simp (maxSteps := 4000000) only [go_sem, List.drop_zero, Nat.sub_zero, hin2, hvl]
        repeat (first | refine z25 rfl ?_ | refine z24 rfl ?_ | refine z21 ?_ | refine z16 ?_ | refine z14 ?_ | (refine z12 fun K hK => ?_; simp (maxSteps := 4000000) only [go_sem, e1, e2]; (repeat (first | (refine ⟨_, .lent (hf := h27) (hd := rfl) (hr := rfl), ?_⟩; simp (maxSteps := 4000000) only [go_sem, e1, e2]) | (refine ⟨_, .lent (hf := h13) (hd := rfl) (hr := rfl), ?_⟩; simp (maxSteps := 4000000) only [go_sem, e1, e2]) | (refine ⟨_, .given (hf := h27) (hd := rfl) (ha := rfl), ?_⟩; simp (maxSteps := 4000000) only [go_sem, e1, e2]) | (refine ⟨_, .given (hf := h13) (hd := rfl) (ha := rfl), ?_⟩; simp (maxSteps := 4000000) only [go_sem, e1, e2]))); refine hK _ ?_; clear hK K) | refine z20 ?_ | refine z22 ?_ | refine z17 ?_ | refine z15 ?_ | refine z13 rfl ?_ | refine z19 ?_ | refine z10 ?_ | refine z23 ?_ | refine z18 ?_ | refine z11 ?_)
        simp (maxSteps := 4000000) only [go_sem]
    · repeat (first | refine z25 rfl ?_ | refine z24 rfl ?_ | refine z21 ?_ | refine z16 ?_ | refine z14 ?_ | (refine z12 fun K hK => ?_; simp (maxSteps := 4000000) only [go_sem, d5]; refine hK _ ?_; clear hK K) | refine z20 ?_ | refine z22 ?_ | refine z17 ?_ | refine z15 ?_ | refine z13 rfl ?_ | refine z19 ?_ | refine z10 ?_ | refine z23 ?_ | refine z18 ?_ | refine z11 ?_)
      repeat (first | refine z21 ?_ | refine z16 ?_ | refine z14 ?_ | (refine z12 fun K hK => ?_; simp (maxSteps := 4000000) only [go_sem, hk.batchesl, hap, hn1]; refine hK _ ?_; clear hK K) | refine z20 ?_ | refine z22 ?_ | refine z17 ?_ | refine z15 ?_ | refine z13 rfl ?_ | refine z19 ?_ | refine z10 ?_ | refine z23 ?_ | refine z18 ?_ | refine z11 ?_)
      cases q9 : (kitE { k with batches := k.batches ++ [⟨mg, ma, ml⟩] } == 0) with
      | true =>
        have q9' := beq_iff_eq.1 q9
        have hg2 : KitGood { k with batches := k.batches ++ [⟨mg, ma, ml⟩] } := z94 (z79.1 q9')
        have hv2 : ∀ g t, sB (fB g t) k.batches ≤ sB (fB g t) (k.batches ++ [⟨mg, ma, ml⟩]) := fun g t => by
          rw [z192]
          have := hv g t
          have := z302 (hg2.batch ⟨mg, ma, ml⟩ (by simp)).2.1.1 g t
          simp only [sB]
          omega
        obtain ⟨l1, l2⟩ := z198 hg hg2 q4 hv2
        have h27b := zf27 { k with batches := k.batches ++ [⟨mg, ma, ml⟩] } M hs3 hM hMr
        rw [if_pos (show openK { k with batches := k.batches ++ [⟨mg, ma, ml⟩] } M = 0 by rw [openK, if_pos q9']; exact if_pos q4)] at h27b
        obtain ⟨a1, ha1⟩ : ∃ a, a = mostK k M := ⟨_, rfl⟩
        obtain ⟨a2, ha2⟩ : ∃ a, a = leastK k M := ⟨_, rfl⟩
        obtain ⟨a3, ha3⟩ : ∃ a, a = mostK { k with batches := k.batches ++ [⟨mg, ma, ml⟩] } M := ⟨_, rfl⟩
        obtain ⟨a4, ha4⟩ : ∃ a, a = leastK { k with batches := k.batches ++ [⟨mg, ma, ml⟩] } M := ⟨_, rfl⟩
        rw [← ha1, ← ha2] at h27
        rw [← ha3, ← ha4] at h27b
        rw [← ha1, ← ha3] at l1
        rw [← ha2, ← ha4] at l2
        have e1 : decide ((a3 : Int) ≥ (a1 : Int)) = true := decide_eq_true (by omega)
        have e2 : decide ((a4 : Int) ≥ (a2 : Int)) = true := decide_eq_true (by omega)
        rw [q9'] at h32
        rw [Kitchen.cells] at h32 h27b
        repeat (first | refine z25 rfl ?_ | refine z24 rfl ?_ | refine z21 ?_ | refine z16 ?_ | refine z14 ?_ | (refine z12 fun K hK => ?_; simp (maxSteps := 4000000) only [go_sem, e1, e2]; (repeat (first | (refine ⟨_, .lent (hf := h32) (hd := rfl) (hr := rfl), ?_⟩; simp (maxSteps := 4000000) only [go_sem, e1, e2]) | (refine ⟨_, .lent (hf := h27) (hd := rfl) (hr := rfl), ?_⟩; simp (maxSteps := 4000000) only [go_sem, e1, e2]) | (refine ⟨_, .lent (hf := h27b) (hd := rfl) (hr := rfl), ?_⟩; simp (maxSteps := 4000000) only [go_sem, e1, e2]) | (refine ⟨_, .lent (hf := h13) (hd := rfl) (hr := rfl), ?_⟩; simp (maxSteps := 4000000) only [go_sem, e1, e2]) | (refine ⟨_, .given (hf := h32) (hd := rfl) (ha := rfl), ?_⟩; simp (maxSteps := 4000000) only [go_sem, e1, e2]) | (refine ⟨_, .given (hf := h27) (hd := rfl) (ha := rfl), ?_⟩; simp (maxSteps := 4000000) only [go_sem, e1, e2]) | (refine ⟨_, .given (hf := h27b) (hd := rfl) (ha := rfl), ?_⟩; simp (maxSteps := 4000000) only [go_sem, e1, e2]) | (refine ⟨_, .given (hf := h13) (hd := rfl) (ha := rfl), ?_⟩; simp (maxSteps := 4000000) only [go_sem, e1, e2]))); refine hK _ ?_; clear hK K) | refine z20 ?_ | refine z22 ?_ | refine z17 ?_ | refine z15 ?_ | refine z13 rfl ?_ | refine z19 ?_ | refine z10 ?_ | refine z23 ?_ | refine z18 ?_ | refine z11 ?_)
        simp (maxSteps := 4000000) only [go_sem]
      | false =>
        have q9b : (kitE { k with batches := k.batches ++ [⟨mg, ma, ml⟩] } != 0) = true := by rw [bne, q9]; rfl
        obtain ⟨a1, ha1⟩ : ∃ a, a = mostK k M := ⟨_, rfl⟩
        obtain ⟨a2, ha2⟩ : ∃ a, a = leastK k M := ⟨_, rfl⟩
        rw [← ha1, ← ha2] at h27
        have e1 : decide ((a1 : Int) ≥ (a1 : Int)) = true := decide_eq_true (by omega)
        have e2 : decide ((a2 : Int) ≥ (a2 : Int)) = true := decide_eq_true (by omega)
        have hvl : (batRows (k.batches ++ [⟨mg, ma, ml⟩])).take k.batches.length = batRows k.batches := by simp [batRows]
        have hw3 : IntKind.i64.wrap (((k.batches.length + 1 : Nat) : Int) - 1) = (k.batches.length : Int) := by rw [z29 (by omega)]; omega
        have hin2 : k.batches.length ≤ k.batches.length + 1 := Nat.le_succ _
        have hin : ((k.batches.length : Int) ≤ ((k.batches.length + 1 : Nat) : Int)) := by omega
        obtain ⟨kE, hkE⟩ : ∃ e, e = kitE { k with batches := k.batches ++ [⟨mg, ma, ml⟩] } := ⟨_, rfl⟩
        rw [← hkE] at h32 q9 q9b
        rw [Kitchen.cells] at h32
        repeat (first | refine z25 rfl ?_ | refine z24 rfl ?_ | refine z21 ?_ | refine z16 ?_ | refine z14 ?_ | (refine z12 fun K hK => ?_; simp (maxSteps := 4000000) only [go_sem, q9, q9b]; (repeat (first | (refine ⟨_, .lent (hf := h32) (hd := rfl) (hr := rfl), ?_⟩; simp (maxSteps := 4000000) only [go_sem, q9, q9b]) | (refine ⟨_, .given (hf := h32) (hd := rfl) (ha := rfl), ?_⟩; simp (maxSteps := 4000000) only [go_sem, q9, q9b]))); refine hK _ ?_; clear hK K) | refine z20 ?_ | refine z22 ?_ | refine z17 ?_ | refine z15 ?_ | refine z13 rfl ?_ | refine z19 ?_ | refine z10 ?_ | refine z23 ?_ | refine z18 ?_ | refine z11 ?_)
        refine z12 fun K hK => ?_
        simp (maxSteps := 4000000) only [go_sem, hl3, hw3, hin, hvl]
        refine hK _ ?_
        clear hK K
        refine z32 [16] ?_
        simp (maxSteps := 4000000) only [go_sem, List.drop_zero, Nat.sub_zero, hin2, hvl]
        repeat (first | refine z25 rfl ?_ | refine z24 rfl ?_ | refine z21 ?_ | refine z16 ?_ | refine z14 ?_ | (refine z12 fun K hK => ?_; simp (maxSteps := 4000000) only [go_sem, e1, e2]; (repeat (first | (refine ⟨_, .lent (hf := h27) (hd := rfl) (hr := rfl), ?_⟩; simp (maxSteps := 4000000) only [go_sem, e1, e2]) | (refine ⟨_, .lent (hf := h13) (hd := rfl) (hr := rfl), ?_⟩; simp (maxSteps := 4000000) only [go_sem, e1, e2]) | (refine ⟨_, .given (hf := h27) (hd := rfl) (ha := rfl), ?_⟩; simp (maxSteps := 4000000) only [go_sem, e1, e2]) | (refine ⟨_, .given (hf := h13) (hd := rfl) (ha := rfl), ?_⟩; simp (maxSteps := 4000000) only [go_sem, e1, e2]))); refine hK _ ?_; clear hK K) | refine z20 ?_ | refine z22 ?_ | refine z17 ?_ | refine z15 ?_ | refine z13 rfl ?_ | refine z19 ?_ | refine z10 ?_ | refine z23 ?_ | refine z18 ?_ | refine z11 ?_)
        simp (maxSteps := 4000000) only [go_sem]
end Go.Ab
namespace Go.Ab
open Go.RowKit Go.Proofs Go.ChangeShapes Go.WideShapes Go.Proofs.Ytgjnckiifffneaa
set_option linter.unusedVariables false
set_option maxRecDepth 100000
structure EaseK where
  mg : Int
  ma : Int
  ml : Int
  bt : Int
  am : Int
  la : Int
def EaseK.row (e : EaseK) : List DV := easeCells e.mg e.ma e.ml e.bt e.am e.la
theorem easeK_of {N : Nat} {r : List DV} (h : Sh.fitsL N hourS r) : ∃ e : EaseK, r = e.row := by
  simp only [hourS, iS, Sh.fitsL, Sh.fits] at h
  obtain ⟨_, _, rfl, ⟨a, rfl, _⟩, _, _, rfl, ⟨b, rfl, _⟩, _, _, rfl, ⟨c, rfl, _⟩, _, _, rfl, ⟨d, rfl, _⟩, _, _, rfl, ⟨e, rfl, _⟩, _, _, rfl, ⟨f, rfl, _⟩, rfl⟩ := h
  exact ⟨⟨a, b, c, d, e, f⟩, rfl⟩
theorem easeKSh : shapes Try.prog 20 65 = some hourS := by kernel_rfl
theorem rdEaseK : Rd 65 (fun x => ∃ e : EaseK, x = .agg e.row) :=
  ⟨by kernel_rfl, of_decide_eq_true (by kernel_rfl), fun H enc w base v d ps _ h hd => by
    obtain ⟨ds, hf, hr⟩ := agg_read easeKSh (by decide) h hd
    obtain ⟨p, rfl⟩ := easeK_of hf
    exact ⟨_, ⟨p, rfl⟩, hr⟩⟩
abbrev aG : TypeId × (DV → Prop) := (65, fun x => ∃ e : EaseK, x = .agg e.row)
end Go.Ab
