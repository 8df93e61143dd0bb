/- A walk engine over abstract states, and the contracts of the functions that the statement reaches: part 6. -/
import Derived.Test.YtgjnckiifffneaaGreatWe
set_option linter.unusedVariables false
set_option linter.unusedSimpArgs false
set_option linter.unnecessarySimpa false
namespace Go.Ab
open Go.RowKit Go.Proofs
set_option maxHeartbeats 16000000
set_option maxRecDepth 20000
attribute [local irreducible] WalkL Walk
theorem zf11m (k : Kitchen) (hs : KitSmall k) : FnG Tryz.prog 11 [] [] (List.map AV.d [.agg k.cells]) (.agg [.own 0, .own 1, .own 2, .own 3])
    [.arr 3 1 (intRows k.allerg), .arr 110 3 (batRows k.batches), .arr 69 1 (dishRows k.dishes), .arr 67 1 (dayRows k.days)] := by
  have a1 := hs.allerg
  have a2 := hs.batches
  have a3 := hs.dishes
  have a5 := hs.days
  have e1 : k.allerg.length ≤ 549755813888 := by omega
  have e2 : k.batches.length ≤ 549755813888 := by omega
  have hcl : k.cells.length = 4 := rfl
  have k0 : k.cells[0]? = some (.sl (intRows k.allerg)) := rfl
  have k1 : k.cells[1]? = some (.sl (batRows k.batches)) := rfl
  have k2 : k.cells[2]? = some (.sl (dishRows k.dishes)) := rfl
  have k3 : k.cells[3]? = some (.sl (dayRows k.days)) := rfl
  have hct : k.cells.take 4 = k.cells := rfl
  have hh : headIs 1 (intRows k.allerg) = true := by cases k.allerg <;> rfl
  refine z87 56 Tryz.call11 Tryz.func11 rfl (by decide) [6, 10, 34, 53] [] (by simp only [List.length_cons, List.length_nil]; decide) (by kernel_rfl) fun J => ?_
  simp (maxSteps := 4000000) only [go_sem, St.startG, Tryz.ntmps11, Tryz.results11, List.map_cons, List.map_nil, List.range_succ,  Kitchen.cells]
  repeat (first | refine z14 ?_ | refine z9 ?_ | refine z7 ?_ | (refine z5 fun K hK => ?_; simp (maxSteps := 4000000) only [go_sem]; refine hK _ ?_; clear hK K) | refine z13 ?_ | refine z15 ?_ | refine z10 ?_ | refine z8 ?_ | refine z6 rfl ?_ | refine z12 ?_ | refine z3 ?_ | refine z16 ?_ | refine z11 ?_ | refine z4 ?_)
  refine z31 [1] ?_
  simp (maxSteps := 4000000) only [go_sem]
  refine z208 (by kernel_rfl) (by kernel_rfl) (fun m => ⟨[.d (.agg k.cells), .d (.ptr k.cells 0), .box 2 0, bif m 9 then .undef else .box 3 0, .undef, .undef,
      bif m 0 then .undef else (bif m 3 then .own 6 else .undef), sel (m 1) (.ptr k.cells 0), sel (m 2) (.sl (intRows k.allerg)), bif m 3 then .undef else .own 6,
      bif m 4 then .undef else (bif m 7 then .own 10 else .undef), sel (m 5) (.ptr k.cells 1), sel (m 6) (.sl (batRows k.batches)), bif m 7 then .undef else .own 10,
      bif m 8 then .undef else .agg [.own 6, .own 10, .nil, .nil]] ++ List.replicate 41 .undef,
    [none, none, some (.box [.nil, .nil, .nil, .nil]), stB (m 9) (m 10) (.box [.nil, .nil, .nil, .nil]) (.box [.own 6, .own 10, .nil, .nil]), none, none,
      stB (m 0) (m 3) (.arr 3 1 []) (.arr 3 1 (intRows k.allerg)), none, none, none, stB (m 4) (m 7) (.arr 110 3 []) (.arr 110 3 (batRows k.batches))] ++ List.replicate 45 none⟩) ?_ ?_ ?_
  · simp (maxSteps := 4000000) only [go_sem]
    rfl
  · refine ⟨?_, ?_, ?_, ?_, ?_, ?_, ?_, ?_, ?_, ?_, ?_, trivial⟩
    all_goals
      intro m hm hd hc
      simp only [closedM, depsM, Region.binds, true_and, and_true, Nat.zero_add, Nat.reduceAdd, reduceCtorEq, forall_const] at hc hd
      cases h0 : m 0 <;> cases h3 : m 3 <;> cases h4 : m 4 <;> cases h7 : m 7 <;> (try simp [h0, h3, h4, h7] at hc hd hm)
    all_goals
      cases h8 : m 8 <;> cases h9 : m 9 <;> cases h10 : m 10 <;> (try simp [h0, h3, h4, h7, h8, h9, h10] at hc hd hm)
    all_goals
      refine ⟨rfl, rfl, ?_⟩
      simp (maxSteps := 4000000) only [go_sem, hm, hd, h0, h3, h4, h7, h8, h9, h10, hcl, hct, k0, k1, e1, e2, hh, batRows_head, List.nil_append, List.length_nil, Nat.zero_add]
  · simp (maxSteps := 4000000) only [go_sem]
    repeat (first | refine z14 ?_ | refine z9 ?_ | refine z7 ?_ | (refine z5 fun K hK => ?_; simp (maxSteps := 4000000) only [go_sem]; refine hK _ ?_; clear hK K) | refine z13 ?_ | refine z15 ?_ | refine z10 ?_ | refine z8 ?_ | refine z6 rfl ?_ | refine z12 ?_ | refine z3 ?_ | refine z16 ?_ | refine z11 ?_ | refine z4 ?_)
    refine z22 (fun (i : Nat) => [(4, .d (.i (i : Int)))]) (fun i => [(3, some (.box [.own 6, .own 10, .own 34, .nil])), (34, some (.arr 69 1 (dishRows (k.dishes.take i))))]) (fun i => i ≤ k.dishes.length) (fun i => k.dishes.length - i) 0 ?_ (Nat.zero_le _) ?_
    · simp (maxSteps := 4000000) only [go_sem]
      refine z19 [34] ?_ ?_ rfl rfl <;> simp [lessT, lessM, lessB, AV.less, dishRows]
    · intro i hi
      simp (maxSteps := 4000000) only [go_sem]
      repeat (first | refine z14 ?_ | refine z9 ?_ | refine z7 ?_ | (refine z5 fun K hK => ?_; simp (maxSteps := 4000000) only [go_sem, k2]; refine hK _ ?_; clear hK K) | refine z13 ?_ | refine z15 ?_ | refine z10 ?_ | refine z8 ?_ | refine z6 rfl ?_ | refine z12 ?_ | refine z3 ?_ | refine z16 ?_ | refine z11 ?_ | refine z4 ?_)
      refine z20 rfl (fun hb => ?_) (fun hb => ?_)
      · have hlt : i < k.dishes.length := by simpa using hb
        have hw : IntKind.i64.wrap ((i : Int) + 1) = ((i + 1 : Nat) : Int) := by rw [z23 (by omega)]; simp
        obtain ⟨x, hx⟩ : ∃ x, k.dishes[i]? = some x := ⟨_, List.getElem?_eq_getElem hlt⟩
        have g1 := z102 hx
        rw [Dish.row] at g1
        have hni : ¬ ((i : Int) < 0) := by omega
        have hxn := hs.needs x (List.mem_of_getElem? hx)
        have e3 : x.needs.length ≤ 549755813888 := by omega
        have hh2 : headIs 1 (intRows x.needs) = true := by cases x.needs <;> rfl
        have hlt2 : (k.dishes.take i).length + 1 ≤ 549755813888 := by rw [List.length_take]; omega
        have htk : dishRows (k.dishes.take i) ++ [[.sl (intRows x.needs)]] = dishRows (k.dishes.take (i + 1)) := by rw [List.take_add_one, hx]; simp [dishRows, Dish.row]
        repeat (first | refine z14 ?_ | refine z9 ?_ | refine z7 ?_ | (refine z5 fun K hK => ?_; simp (maxSteps := 4000000) only [go_sem]; refine hK _ ?_; clear hK K) | refine z13 ?_ | refine z15 ?_ | refine z10 ?_ | refine z8 ?_ | refine z6 rfl ?_ | refine z12 ?_ | refine z3 ?_ | refine z16 ?_ | refine z11 ?_ | refine z4 ?_)
        refine z134 [31] (by kernel_rfl) (by kernel_rfl) fun K hK => ?_
        simp (maxSteps := 4000000) only [go_sem, k2, g1, hni, e3, hh2, hlt2, htk, List.nil_append, List.length_nil, Nat.zero_add]
        refine ⟨by kernel_rfl, hK _ ?_⟩
        clear hK K
        repeat (first | refine z14 ?_ | refine z9 ?_ | refine z7 ?_ | (refine z5 fun K hK => ?_; simp (maxSteps := 4000000) only [go_sem, hw]; refine hK _ ?_; clear hK K) | refine z13 ?_ | refine z15 ?_ | refine z10 ?_ | refine z8 ?_ | refine z6 rfl ?_ | refine z12 ?_ | refine z3 ?_ | refine z16 ?_ | refine z11 ?_ | refine z4 ?_)
        refine ⟨rfl, i + 1, ?_, hlt, by omega⟩
        refine z19 [] ?_ ?_ rfl rfl <;> simp [lessT, lessM, lessB, AV.less]
        all_goals first | done | rfl | trace_state
      · have he : i = k.dishes.length := by (have : ¬ i < k.dishes.length := by simpa using hb); omega
        subst he
        rw [List.take_length]
        repeat (first | refine z14 ?_ | refine z9 ?_ | refine z7 ?_ | (refine z5 fun K hK => ?_; simp (maxSteps := 4000000) only [go_sem]; refine hK _ ?_; clear hK K) | refine z13 ?_ | refine z15 ?_ | refine z10 ?_ | refine z8 ?_ | refine z6 rfl ?_ | refine z12 ?_ | refine z3 ?_ | refine z16 ?_ | refine z11 ?_ | refine z4 ?_)
        refine z22 (fun (i : Nat) => [(5, .d (.i (i : Int)))]) (fun i => [(3, some (.box [.own 6, .own 10, .own 34, .own 53])), (53, some (.arr 67 1 (dayRows (k.days.take i))))]) (fun i => i ≤ k.days.length) (fun i => k.days.length - i) 0 ?_ (Nat.zero_le _) ?_
        · simp (maxSteps := 4000000) only [go_sem]
          refine z19 [53] ?_ ?_ rfl rfl <;> simp [lessT, lessM, lessB, AV.less, dayRows]
        · intro i hi
          simp (maxSteps := 4000000) only [go_sem]
          repeat (first | refine z14 ?_ | refine z9 ?_ | refine z7 ?_ | (refine z5 fun K hK => ?_; simp (maxSteps := 4000000) only [go_sem, k3]; refine hK _ ?_; clear hK K) | refine z13 ?_ | refine z15 ?_ | refine z10 ?_ | refine z8 ?_ | refine z6 rfl ?_ | refine z12 ?_ | refine z3 ?_ | refine z16 ?_ | refine z11 ?_ | refine z4 ?_)
          refine z20 rfl (fun hb => ?_) (fun hb => ?_)
          · have hlt : i < k.days.length := by simpa using hb
            have hw : IntKind.i64.wrap ((i : Int) + 1) = ((i + 1 : Nat) : Int) := by rw [z23 (by omega)]; simp
            obtain ⟨x, hx⟩ : ∃ x, k.days[i]? = some x := ⟨_, List.getElem?_eq_getElem hlt⟩
            have g1 := z77 hx
            have hni : ¬ ((i : Int) < 0) := by omega
            have hxn := hs.groups x (List.mem_of_getElem? hx)
            have e3 : x.length ≤ 549755813888 := by omega
            have hh2 : headIs 3 (dinRows x) = true := by cases x <;> rfl
            have hlt2 : (k.days.take i).length + 1 ≤ 549755813888 := by rw [List.length_take]; omega
            have htk : dayRows (k.days.take i) ++ [[.sl (dinRows x)]] = dayRows (k.days.take (i + 1)) := by rw [List.take_add_one, hx]; simp [dayRows]
            repeat (first | refine z14 ?_ | refine z9 ?_ | refine z7 ?_ | (refine z5 fun K hK => ?_; simp (maxSteps := 4000000) only [go_sem]; refine hK _ ?_; clear hK K) | refine z13 ?_ | refine z15 ?_ | refine z10 ?_ | refine z8 ?_ | refine z6 rfl ?_ | refine z12 ?_ | refine z3 ?_ | refine z16 ?_ | refine z11 ?_ | refine z4 ?_)
            refine z134 [51] (by kernel_rfl) (by kernel_rfl) fun K hK => ?_
            simp (maxSteps := 4000000) only [go_sem, k3, g1, hni, e3, hh2, hlt2, htk, List.nil_append, List.length_nil, Nat.zero_add]
            refine ⟨by kernel_rfl, hK _ ?_⟩
            clear hK K
            repeat (first | refine z14 ?_ | refine z9 ?_ | refine z7 ?_ | (refine z5 fun K hK => ?_; simp (maxSteps := 4000000) only [go_sem, hw]; refine hK _ ?_; clear hK K) | refine z13 ?_ | refine z15 ?_ | refine z10 ?_ | refine z8 ?_ | refine z6 rfl ?_ | refine z12 ?_ | refine z3 ?_ | refine z16 ?_ | refine z11 ?_ | refine z4 ?_)
            refine ⟨rfl, i + 1, ?_, hlt, by omega⟩
            refine z19 [] ?_ ?_ rfl rfl <;> simp [lessT, lessM, lessB, AV.less]
            all_goals first | done | rfl | trace_state
          · have he : i = k.days.length := by (have : ¬ i < k.days.length := by simpa using hb); omega
            subst he
            rw [List.take_length]
            repeat (first | refine z14 ?_ | refine z9 ?_ | refine z7 ?_ | (refine z5 fun K hK => ?_; simp (maxSteps := 4000000) only [go_sem]; refine hK _ ?_; clear hK K) | refine z13 ?_ | refine z15 ?_ | refine z10 ?_ | refine z8 ?_ | refine z6 rfl ?_ | refine z12 ?_ | refine z3 ?_ | refine z16 ?_ | refine z11 ?_ | refine z4 ?_)
            simp (maxSteps := 4000000) only [go_sem, retG]
end Go.Ab
namespace Go.Ab
open Go.RowKit Go.Proofs
set_option maxHeartbeats 16000000
set_option maxRecDepth 20000
attribute [local irreducible] WalkL Walk
theorem zf24 (k : Kitchen) (buy : List Int) (hs : KitSmall k) (hb1 : k.batches.length < 2 ^ 20) (hb2 : buy.length < 2 ^ 20) : Fn Tryz.prog 24 [.agg k.cells, .sl (intRows buy)] (.agg (moreK k buy).cells) := by
  have h11 := zf11m k hs
  rw [Kitchen.cells] at h11 ⊢
  rw [Kitchen.cells]
  obtain ⟨F, hF⟩ : ∃ F : Nat → List (List DV), F = fun i => batRows (k.batches ++ (boughtB buy).take i) := ⟨_, rfl⟩
  have hF0 : F 0 = batRows k.batches := by rw [hF]; simp
  have hFl : ∀ i, i ≤ buy.length → (F i).length ≤ k.batches.length + i := fun i hi => by rw [hF]; simp [z286]; omega
  have hFs : ∀ i, i < buy.length → F i ++ [[.i (i : Int), .i (getI buy (i : Int)), .i 30]] = F (i + 1) := fun i hi => by
    have hx : (boughtB buy)[i]? = some ⟨(i : Int), getI buy (i : Int), 30⟩ := by
      simp [boughtB, hi]
    rw [hF]
    simp only
    rw [List.take_add_one, hx]
    simp [batRows, Batch.row]
  have hFe : F buy.length = batRows (moreK k buy).batches := by
    rw [hF]
    simp only
    rw [List.take_of_length_le (by simp [bought_len]), moreK]
  have e3 : (moreK k buy).allerg = k.allerg := rfl
  have e4 : (moreK k buy).dishes = k.dishes := rfl
  have e5 : (moreK k buy).days = k.days := rfl
  rw [← hFe, e3, e4, e5]
  rw [← hF0] at h11
  refine z21 27 Tryz.call24 Tryz.func24 rfl (by decide) fun J => ?_
  simp (maxSteps := 4000000) only [go_sem, St.start, Tryz.ntmps24, Tryz.results24]
  repeat (first | refine z14 ?_ | refine z9 ?_ | refine z7 ?_ | (refine z5 fun K hK => ?_; simp (maxSteps := 4000000) only [go_sem]; refine hK _ ?_; clear hK K) | refine z13 ?_ | refine z15 ?_ | refine z10 ?_ | refine z8 ?_ | refine z6 rfl ?_ | refine z12 ?_ | refine z3 ?_ | refine z16 ?_ | refine z11 ?_ | refine z4 ?_)
  refine z5 fun K hK => ?_
  simp (maxSteps := 4000000) only [go_sem, hF0]
  rw [← hF0]
  refine ⟨_, .made (news := [0, 1, 3, 26]) (hf := h11) (hd := rfl) (hn := by decide) (hl := rfl) (hnew := rfl) (hx := rfl), ?_⟩
  simp (maxSteps := 4000000) only [go_sem, List.map_cons, List.map_nil]
  refine hK _ ?_
  clear hK K
  repeat (first | refine z14 ?_ | refine z9 ?_ | refine z7 ?_ | (refine z5 fun K hK => ?_; simp (maxSteps := 4000000) only [go_sem]; refine hK _ ?_; clear hK K) | refine z13 ?_ | refine z15 ?_ | refine z10 ?_ | refine z8 ?_ | refine z6 rfl ?_ | refine z12 ?_ | refine z3 ?_ | refine z16 ?_ | refine z11 ?_ | refine z4 ?_)
  refine walkL_lose [7, 8] ?_ ?_
  · simp (maxSteps := 4000000) only [go_sem]
    refine z19 [] ?_ ?_ rfl rfl <;> simp [lessT, lessM, lessB, AV.less]
  simp (maxSteps := 4000000) only [go_sem]
  refine z22 (fun (i : Nat) => [(6, .d (.i (i : Int)))]) (fun i => [(1, some (.arr 110 3 (F i)))]) (fun i => i ≤ buy.length) (fun i => buy.length - i) 0 ?_ (Nat.zero_le _) ?_
  · simp (maxSteps := 4000000) only [go_sem]
    refine z19 [] ?_ ?_ rfl rfl <;> simp [lessT, lessM, lessB, AV.less]
    all_goals first | done | rfl | trace_state
  · intro i hi
    simp (maxSteps := 4000000) only [go_sem]
    repeat (first | refine z14 ?_ | refine z9 ?_ | refine z7 ?_ | (refine z5 fun K hK => ?_; simp (maxSteps := 4000000) only [go_sem]; refine hK _ ?_; clear hK K) | refine z13 ?_ | refine z15 ?_ | refine z10 ?_ | refine z8 ?_ | refine z6 rfl ?_ | refine z12 ?_ | refine z3 ?_ | refine z16 ?_ | refine z11 ?_ | refine z4 ?_)
    refine z20 rfl (fun hb => ?_) (fun hb => ?_)
    · have hlt : i < buy.length := by simpa using hb
      have hw : IntKind.i64.wrap ((i : Int) + 1) = ((i + 1 : Nat) : Int) := by rw [z23 (by omega)]; simp
      have g1 := z33 hlt
      have hni : ¬ ((i : Int) < 0) := by omega
      have hl1 := hFl i hi
      have hl2 : (F i).length ≤ 549755813887 := by omega
      have hs1 := hFs i hlt
      repeat (first | refine z14 ?_ | refine z9 ?_ | refine z7 ?_ | (refine z5 fun K hK => ?_; simp (maxSteps := 4000000) only [go_sem]; refine hK _ ?_; clear hK K) | refine z13 ?_ | refine z15 ?_ | refine z10 ?_ | refine z8 ?_ | refine z6 rfl ?_ | refine z12 ?_ | refine z3 ?_ | refine z16 ?_ | refine z11 ?_ | refine z4 ?_)
      refine z135 (by kernel_rfl) (by kernel_rfl) fun K hK => ?_
      simp (maxSteps := 4000000) only [go_sem, g1, hni, hl2, hs1]
      refine ⟨by kernel_rfl, hK _ ?_⟩
      clear hK K
      repeat (first | refine z14 ?_ | refine z9 ?_ | refine z7 ?_ | (refine z5 fun K hK => ?_; simp (maxSteps := 4000000) only [go_sem, hw]; refine hK _ ?_; clear hK K) | refine z13 ?_ | refine z15 ?_ | refine z10 ?_ | refine z8 ?_ | refine z6 rfl ?_ | refine z12 ?_ | refine z3 ?_ | refine z16 ?_ | refine z11 ?_ | refine z4 ?_)
      refine ⟨rfl, i + 1, ?_, hlt, by omega⟩
      refine z19 [] ?_ ?_ rfl rfl <;> simp [lessT, lessM, lessB, AV.less]
      all_goals first | done | rfl | trace_state
    · have he : i = buy.length := by (have : ¬ i < buy.length := by simpa using hb); omega
      subst he
      repeat (first | refine z14 ?_ | refine z9 ?_ | refine z7 ?_ | (refine z5 fun K hK => ?_; simp (maxSteps := 4000000) only [go_sem]; refine hK _ ?_; clear hK K) | refine z13 ?_ | refine z15 ?_ | refine z10 ?_ | refine z8 ?_ | refine z6 rfl ?_ | refine z12 ?_ | refine z3 ?_ | refine z16 ?_ | refine z11 ?_ | refine z4 ?_)
      simp (maxSteps := 4000000) only [go_sem]
end Go.Ab
namespace Go.Ab
open Go.RowKit Go.Proofs
set_option maxHeartbeats 8000000
theorem next_range {s : Supply} {c n : Int} (hz : (nextP s c n).2.2 = 0) : 0 ≤ (nextP s c n).1 ∧ (nextP s c n).1 ≤ 48 := by
  have h1 : suppE s = 0 := by
    unfold nextP at hz
    split at hz
    · rename_i h
      unfold openS6 at h
      split at h
      · assumption
      · exact absurd h (by assumption)
    · rename_i h
      exact absurd hz h
  obtain ⟨hask, hlim, hwn, he, h0⟩ := next_code h1 hz
  obtain ⟨hg, hsi, hpo, _, _⟩ := z152 (z247 h1)
  have hw1 := z27.1 hwn
  obtain ⟨N, rfl⟩ : ∃ N : Nat, n = (N : Int) := ⟨n.toNat, by omega⟩
  have hN : 1 ≤ N := by omega
  obtain ⟨L, hL⟩ : ∃ L, L = (s.carr.getD c.toNat ⟨0, 0, 0, ⟨0, 0, ⟨0, 0⟩⟩⟩).lim := ⟨_, rfl⟩
  rw [← hL] at hlim
  have hW1 : (nextW s c N).2.1 = if winNever L N (scensOf (possL s.scen s.seen)) then -1 else winLast L N (scensOf (possL s.scen s.seen)) := by
    rw [nextW, ← hL, windowF, hlim, hwn, if_pos (z247 h1)]
  rw [hW1] at h0 he
  have hnv : winNever L N (scensOf (possL s.scen s.seen)) = false := by
    cases hv : winNever L N (scensOf (possL s.scen s.seen)) with
    | false => rfl
    | true => rw [hv] at h0; simp at h0
  rw [hnv] at h0 he
  simp only [Bool.false_eq_true, if_false] at h0 he
  have hall : ∀ x ∈ scensOf (possL s.scen s.seen), 0 ≤ beginsF (x.map (alwaysB L)) N := fun x hx => by
    rw [winNever, List.any_eq_false] at hnv
    have := hnv x hx
    simp at this
    exact this
  have h48 : winLast L N (scensOf (possL s.scen s.seen)) ≤ 48 := winLast_le.2 ⟨by decide, fun x hx => by
    have hb := z204 hN (hall x hx)
    obtain ⟨l, hl, _, rfl⟩ := scens5_mem.1 hx
    rw [List.length_map, z83, hg.len l hl] at hb
    have := hg.hours
    omega⟩
  rw [he]
  exact ⟨h0, h48⟩
theorem days_range {a : Int} (h0 : 0 ≤ a) (h : a ≤ 48) : 0 ≤ daysP a ∧ daysP a ≤ 3 ∧ a ≤ 24 * daysP a := by
  have e : daysP a = (a + 23) / 24 := by
    rw [daysP, z23 (x := a + 23) (by omega), Int.tdiv_eq_ediv_of_nonneg (by omega), z23 (by omega)]
  rw [e]
  omega
end Go.Ab
namespace Go.Ab
open Go.RowKit Go.Proofs
set_option maxHeartbeats 16000000
set_option maxRecDepth 20000
attribute [local irreducible] WalkL Walk
def badSt (k : Kitchen) (M : List (List Int)) (s : Supply) : Bool := far7 k || (farRows M || (farSup s || (openK k M != 0 || decide ((k.batches.length : Int) + k.allerg.length > 10))))
def stkCells (s : Supply) (c n : Int) : List DV := [.sl (scenRows s.scen), .sl (sightRows s.seen), .i s.stock, .i s.reserve, .i s.room, .i s.use.lo, .i s.use.hi, .sl (carrRows s.carr), .i c, .i n]
theorem zf5 (k : Kitchen) (M : List (List Int)) (s : Supply) (c n : Int) (hk : KitSmall k) (hM : M.length < 2 ^ 30) (hMr : ∀ r ∈ M, r.length < 2 ^ 30) (hs : SuppSmall s) :
    Fn Tryz.prog 5 [.agg k.cells, .sl (listRows M), .agg (stkCells s c n)] (.bool true) := by
  have h6 := zf6 k hk
  have h7 := zf7 M hM
  have h8 := zf8 s hs
  have h21 := zf21 k M hk hM hMr
  have h22 := zf22
  have h23 := zf23 k M hk hM hMr
  have hw1 : IntKind.i64.wrap ((k.batches.length : Int) + k.allerg.length) = k.batches.length + k.allerg.length := by
    have := hk.batches
    have := hk.allerg
    exact z23 (by omega)
  have h18 := zf18 s c n hs
  rw [Supply.cells] at h8 h18
  rw [Kitchen.cells] at h6 h21 h23
  refine z21 135 Tryz.call5 Tryz.func5 rfl (by decide) fun J => ?_
  simp (maxSteps := 4000000) only [go_sem, St.start, Tryz.ntmps5, Tryz.results5, Kitchen.cells, stkCells]
  repeat (first | refine z14 ?_ | refine z9 ?_ | refine z7 ?_ | (refine z5 fun K hK => ?_; simp (maxSteps := 4000000) only [go_sem]; refine hK _ ?_; clear hK K) | refine z13 ?_ | refine z15 ?_ | refine z10 ?_ | refine z8 ?_ | refine z6 rfl ?_ | refine z12 ?_ | refine z3 ?_ | refine z16 ?_ | refine z11 ?_ | refine z4 ?_)
  refine z40 [(45, .d (.bool (badSt k M s)))] [] ?_ ?_
  · refine z5 fun K hK => ?_
    simp (maxSteps := 4000000) only [go_sem, hw1]
    refine ⟨_, .lent (hf := h6) (hd := rfl) (hr := rfl), ?_⟩
    simp (maxSteps := 4000000) only [go_sem, hw1]
    by_cases ho0 : (far7 k) = true
    · simp (maxSteps := 4000000) only [go_sem, hw1, ho0]
      refine hK _ ?_
      clear hK K
      refine z13 ?_
      refine z4 ?_
      refine ⟨rfl, ?_⟩
      rw [show (badSt k M s) = (true) from by simp [badSt, ho0]]
      simp (maxSteps := 4000000) only [go_sem]
      refine z19 [] ?_ ?_ rfl rfl <;> simp [lessT, lessM, lessB, AV.less]
    · simp (maxSteps := 4000000) only [go_sem, hw1, ho0]
      refine ⟨_, .lent (hf := h7) (hd := rfl) (hr := rfl), ?_⟩
      simp (maxSteps := 4000000) only [go_sem, hw1, ho0]
      by_cases ho1 : (farRows M) = true
      · simp (maxSteps := 4000000) only [go_sem, hw1, ho0, ho1]
        refine hK _ ?_
        clear hK K
        refine z13 ?_
        refine z4 ?_
        refine ⟨rfl, ?_⟩
        rw [show (badSt k M s) = (true) from by simp [badSt, ho0, ho1]]
        simp (maxSteps := 4000000) only [go_sem]
        refine z19 [] ?_ ?_ rfl rfl <;> simp [lessT, lessM, lessB, AV.less]
      · simp (maxSteps := 4000000) only [go_sem, hw1, ho0, ho1]
        refine ⟨_, .lent (hf := h8) (hd := rfl) (hr := rfl), ?_⟩
        simp (maxSteps := 4000000) only [go_sem, hw1, ho0, ho1]
        by_cases ho2 : (farSup s) = true
        · simp (maxSteps := 4000000) only [go_sem, hw1, ho0, ho1, ho2]
          refine hK _ ?_
          clear hK K
          refine z13 ?_
          refine z4 ?_
          refine ⟨rfl, ?_⟩
          rw [show (badSt k M s) = (true) from by simp [badSt, ho0, ho1, ho2]]
          simp (maxSteps := 4000000) only [go_sem]
          refine z19 [] ?_ ?_ rfl rfl <;> simp [lessT, lessM, lessB, AV.less]
        · simp (maxSteps := 4000000) only [go_sem, hw1, ho0, ho1, ho2]
          refine ⟨_, .lent (hf := h21) (hd := rfl) (hr := rfl), ?_⟩
          simp (maxSteps := 4000000) only [go_sem, hw1, ho0, ho1, ho2]
          by_cases ho3 : (openK k M != 0) = true
          · simp (maxSteps := 4000000) only [go_sem, hw1, ho0, ho1, ho2, ho3]
            refine hK _ ?_
            clear hK K
            refine z13 ?_
            refine z4 ?_
            refine ⟨rfl, ?_⟩
            rw [show (badSt k M s) = (true) from by simp [badSt, ho0, ho1, ho2, ho3]]
            simp (maxSteps := 4000000) only [go_sem]
            refine z19 [] ?_ ?_ rfl rfl <;> simp [lessT, lessM, lessB, AV.less]
          · simp (maxSteps := 4000000) only [go_sem, hw1, ho0, ho1, ho2, ho3]
            refine hK _ ?_
            clear hK K
            refine z13 ?_
            refine z4 ?_
            refine ⟨rfl, ?_⟩
            rw [show (badSt k M s) = (decide ((k.batches.length : Int) + k.allerg.length > 10)) from by simp [badSt, ho0, ho1, ho2, ho3]]
            simp (maxSteps := 4000000) only [go_sem]
            refine z19 [] ?_ ?_ rfl rfl <;> simp [lessT, lessM, lessB, AV.less]
  simp (maxSteps := 4000000) only [go_sem]
  repeat (first | refine z14 ?_ | refine z9 ?_ | refine z7 ?_ | (refine z5 fun K hK => ?_; simp (maxSteps := 4000000) only [go_sem]; refine hK _ ?_; clear hK K) | refine z13 ?_ | refine z15 ?_ | refine z10 ?_ | refine z8 ?_ | refine z6 rfl ?_ | refine z12 ?_ | refine z3 ?_ | refine z16 ?_ | refine z11 ?_ | refine z4 ?_)
  refine z20 rfl (fun hc => ?_) (fun hc => ?_)
  · repeat (first | refine z14 ?_ | refine z9 ?_ | refine z7 ?_ | (refine z5 fun K hK => ?_; simp (maxSteps := 4000000) only [go_sem]; (repeat (first | (refine ⟨_, .lent (hf := h22) (hd := rfl) (hr := rfl), ?_⟩; simp (maxSteps := 4000000) only [go_sem]) | (refine ⟨_, .given (hf := h22) (hd := rfl) (ha := rfl), ?_⟩; simp (maxSteps := 4000000) only [go_sem]))); refine hK _ ?_; clear hK K) | refine z13 ?_ | refine z15 ?_ | refine z10 ?_ | refine z8 ?_ | refine z6 rfl ?_ | refine z12 ?_ | refine z3 ?_ | refine z16 ?_ | refine z11 ?_ | refine z4 ?_)
    simp (maxSteps := 4000000) only [go_sem]
  · have hbad := hc
    simp only [badSt, Bool.or_eq_false_iff, bne_eq_false_iff_eq, decide_eq_false_iff_not] at hbad
    obtain ⟨_, _, _, b4, b5⟩ := hbad
    rw [if_pos b4] at h23
    have hg : KitGood k := by
      refine z179 (z144.1 ?_)
      unfold openK at b4
      split at b4
      · assumption
      · assumption
    have hsh : shapedB (menuB k) M k.days = true := by
      unfold openK at b4
      split at b4
      · split at b4
        · assumption
        · cases b4
      · contradiction
    have hlen := order_len hg hsh
    have hmost := most_more hg hsh
    have hopen := fun h => open_more (k := k) (M := M) (buy := orderK k M) h hsh
    obtain ⟨buy, hbuy⟩ : ∃ b, b = orderK k M := ⟨_, rfl⟩
    rw [← hbuy] at h23 hlen hmost hopen
    have h24 := zf24 k buy hk (by have := hg.batches; omega) (by have := hg.goods; omega)
    obtain ⟨k2, hk2⟩ : ∃ k2, k2 = moreK k buy := ⟨_, rfl⟩
    rw [← hk2] at h24 hmost hopen
    have hks : KitSmall k2 := by
      rw [hk2]
      exact ⟨hk.allerg, by rw [more_len]; have := hg.batches; have := hg.goods; omega, hk.dishes, hk.needs, hk.days, hk.groups⟩
    have h25 := zf25 k2 hks
    have h19 := zf19 k2 M hks hM hMr
    have h10 := zf10 k2 M s c n hks hM hMr hs
    rw [Kitchen.cells, Kitchen.cells] at h24
    rw [Kitchen.cells] at h25 h19 h10
    rw [Supply.cells] at h10
    have q1 : ((buy.length : Int) != (k.allerg.length : Int)) = false := by simp [hlen]
    by_cases h0 : kitE k2 = 0
    · have ho := hopen h0
      rw [h0] at h25
      rw [if_pos ho, hmost] at h19
      have hen : enoughP k2 M s c n = if (nextP s c n).2.2 = 0 then (daysP (nextP s c n).1, decide (daysP (nextP s c n).1 ≤ (k.days.length : Int)), 0) else (0, false, (nextP s c n).2.2) := by rw [enoughP, if_pos ho, hmost]
      rw [hen] at h10
      have hnr := next_range (s := s) (c := c) (n := n)
      obtain ⟨⟨a1, c1, e1⟩, hP1⟩ : ∃ x, nextP s c n = x := ⟨_, rfl⟩
      rw [hP1] at h10 h18 hnr
      dsimp only at h10 h18 hnr
      obtain ⟨may, hmay⟩ : ∃ x, x = leastK k2 M := ⟨_, rfl⟩
      rw [← hmay] at h19
      have s1 : (e1 != e1) = false := by simp
      have s2 : ((k.days.length : Int) != (k.days.length : Int)) = false := by simp
      by_cases hz : e1 = 0
      · obtain ⟨r1, r2⟩ := hnr hz
        subst hz
        rw [if_pos rfl] at h10
        dsimp only at h10
        obtain ⟨d1, d2, d3⟩ := days_range r1 r2
        obtain ⟨d, hd⟩ : ∃ d, d = daysP a1 := ⟨_, rfl⟩
        rw [← hd] at h10 d1 d2 d3
        have w2 : IntKind.i64.wrap (24 * d) = 24 * d := z23 (by omega)
        have qd : decide (24 * d ≥ a1) = true := decide_eq_true d3
        obtain ⟨bb, hbb⟩ : ∃ bb, bb = decide (d ≤ (k.days.length : Int)) := ⟨_, rfl⟩
        rw [← hbb] at h10
        have s3 : (bb == bb) = true := by simp
        repeat (first | refine z18 rfl ?_ | refine z17 rfl ?_ | refine z14 ?_ | refine z9 ?_ | refine z7 ?_ | (refine z5 fun K hK => ?_; simp (maxSteps := 4000000) only [go_sem, q1, s1, s2, w2, qd, ← hbb, s3]; (repeat (first | (refine ⟨_, .lent (hf := h23) (hd := rfl) (hr := rfl), ?_⟩; simp (maxSteps := 4000000) only [go_sem, q1, s1, s2, w2, qd, ← hbb, s3]) | (refine ⟨_, .lent (hf := h24) (hd := rfl) (hr := rfl), ?_⟩; simp (maxSteps := 4000000) only [go_sem, q1, s1, s2, w2, qd, ← hbb, s3]) | (refine ⟨_, .lent (hf := h25) (hd := rfl) (hr := rfl), ?_⟩; simp (maxSteps := 4000000) only [go_sem, q1, s1, s2, w2, qd, ← hbb, s3]) | (refine ⟨_, .lent (hf := h19) (hd := rfl) (hr := rfl), ?_⟩; simp (maxSteps := 4000000) only [go_sem, q1, s1, s2, w2, qd, ← hbb, s3]) | (refine ⟨_, .lent (hf := h10) (hd := rfl) (hr := rfl), ?_⟩; simp (maxSteps := 4000000) only [go_sem, q1, s1, s2, w2, qd, ← hbb, s3]) | (refine ⟨_, .lent (hf := h18) (hd := rfl) (hr := rfl), ?_⟩; simp (maxSteps := 4000000) only [go_sem, q1, s1, s2, w2, qd, ← hbb, s3]) | (refine ⟨_, .lent (hf := h22) (hd := rfl) (hr := rfl), ?_⟩; simp (maxSteps := 4000000) only [go_sem, q1, s1, s2, w2, qd, ← hbb, s3]) | (refine ⟨_, .given (hf := h23) (hd := rfl) (ha := rfl), ?_⟩; simp (maxSteps := 4000000) only [go_sem, q1, s1, s2, w2, qd, ← hbb, s3]) | (refine ⟨_, .given (hf := h24) (hd := rfl) (ha := rfl), ?_⟩; simp (maxSteps := 4000000) only [go_sem, q1, s1, s2, w2, qd, ← hbb, s3]) | (refine ⟨_, .given (hf := h25) (hd := rfl) (ha := rfl), ?_⟩; simp (maxSteps := 4000000) only [go_sem, q1, s1, s2, w2, qd, ← hbb, s3]) | (refine ⟨_, .given (hf := h19) (hd := rfl) (ha := rfl), ?_⟩; simp (maxSteps := 4000000) only [go_sem, q1, s1, s2, w2, qd, ← hbb, s3]) | (refine ⟨_, .given (hf := h10) (hd := rfl) (ha := rfl), ?_⟩; simp (maxSteps := 4000000) only [go_sem, q1, s1, s2, w2, qd, ← hbb, s3]) | (refine ⟨_, .given (hf := h18) (hd := rfl) (ha := rfl), ?_⟩; simp (maxSteps := 4000000) only [go_sem, q1, s1, s2, w2, qd, ← hbb, s3]) | (refine ⟨_, .given (hf := h22) (hd := rfl) (ha := rfl), ?_⟩; simp (maxSteps := 4000000) only [go_sem, q1, s1, s2, w2, qd, ← hbb, s3]))); refine hK _ ?_; clear hK K) | refine z13 ?_ | refine z15 ?_ | refine z10 ?_ | refine z8 ?_ | refine z6 rfl ?_ | refine z12 ?_ | refine z3 ?_ | refine z16 ?_ | refine z11 ?_ | refine z4 ?_)
        simp (maxSteps := 4000000) only [go_sem]
      · have hz1 : (e1 != 0) = true := by simpa using hz
        rw [if_neg hz] at h10
        repeat (first | refine z18 rfl ?_ | refine z17 rfl ?_ | refine z14 ?_ | refine z9 ?_ | refine z7 ?_ | (refine z5 fun K hK => ?_; simp (maxSteps := 4000000) only [go_sem, q1, s1, s2, hz1]; (repeat (first | (refine ⟨_, .lent (hf := h23) (hd := rfl) (hr := rfl), ?_⟩; simp (maxSteps := 4000000) only [go_sem, q1, s1, s2, hz1]) | (refine ⟨_, .lent (hf := h24) (hd := rfl) (hr := rfl), ?_⟩; simp (maxSteps := 4000000) only [go_sem, q1, s1, s2, hz1]) | (refine ⟨_, .lent (hf := h25) (hd := rfl) (hr := rfl), ?_⟩; simp (maxSteps := 4000000) only [go_sem, q1, s1, s2, hz1]) | (refine ⟨_, .lent (hf := h19) (hd := rfl) (hr := rfl), ?_⟩; simp (maxSteps := 4000000) only [go_sem, q1, s1, s2, hz1]) | (refine ⟨_, .lent (hf := h10) (hd := rfl) (hr := rfl), ?_⟩; simp (maxSteps := 4000000) only [go_sem, q1, s1, s2, hz1]) | (refine ⟨_, .lent (hf := h18) (hd := rfl) (hr := rfl), ?_⟩; simp (maxSteps := 4000000) only [go_sem, q1, s1, s2, hz1]) | (refine ⟨_, .lent (hf := h22) (hd := rfl) (hr := rfl), ?_⟩; simp (maxSteps := 4000000) only [go_sem, q1, s1, s2, hz1]) | (refine ⟨_, .given (hf := h23) (hd := rfl) (ha := rfl), ?_⟩; simp (maxSteps := 4000000) only [go_sem, q1, s1, s2, hz1]) | (refine ⟨_, .given (hf := h24) (hd := rfl) (ha := rfl), ?_⟩; simp (maxSteps := 4000000) only [go_sem, q1, s1, s2, hz1]) | (refine ⟨_, .given (hf := h25) (hd := rfl) (ha := rfl), ?_⟩; simp (maxSteps := 4000000) only [go_sem, q1, s1, s2, hz1]) | (refine ⟨_, .given (hf := h19) (hd := rfl) (ha := rfl), ?_⟩; simp (maxSteps := 4000000) only [go_sem, q1, s1, s2, hz1]) | (refine ⟨_, .given (hf := h10) (hd := rfl) (ha := rfl), ?_⟩; simp (maxSteps := 4000000) only [go_sem, q1, s1, s2, hz1]) | (refine ⟨_, .given (hf := h18) (hd := rfl) (ha := rfl), ?_⟩; simp (maxSteps := 4000000) only [go_sem, q1, s1, s2, hz1]) | (refine ⟨_, .given (hf := h22) (hd := rfl) (ha := rfl), ?_⟩; simp (maxSteps := 4000000) only [go_sem, q1, s1, s2, hz1]))); refine hK _ ?_; clear hK K) | refine z13 ?_ | refine z15 ?_ | refine z10 ?_ | refine z8 ?_ | refine z6 rfl ?_ | refine z12 ?_ | refine z3 ?_ | refine z16 ?_ | refine z11 ?_ | refine z4 ?_)
        simp (maxSteps := 4000000) only [go_sem]
    · have hz : (kitE k2 != 0) = true := by simpa using h0
      repeat (first | refine z18 rfl ?_ | refine z17 rfl ?_ | refine z14 ?_ | refine z9 ?_ | refine z7 ?_ | (refine z5 fun K hK => ?_; simp (maxSteps := 4000000) only [go_sem, q1, hz]; (repeat (first | (refine ⟨_, .lent (hf := h23) (hd := rfl) (hr := rfl), ?_⟩; simp (maxSteps := 4000000) only [go_sem, q1, hz]) | (refine ⟨_, .lent (hf := h24) (hd := rfl) (hr := rfl), ?_⟩; simp (maxSteps := 4000000) only [go_sem, q1, hz]) | (refine ⟨_, .lent (hf := h25) (hd := rfl) (hr := rfl), ?_⟩; simp (maxSteps := 4000000) only [go_sem, q1, hz]) | (refine ⟨_, .lent (hf := h22) (hd := rfl) (hr := rfl), ?_⟩; simp (maxSteps := 4000000) only [go_sem, q1, hz]) | (refine ⟨_, .given (hf := h23) (hd := rfl) (ha := rfl), ?_⟩; simp (maxSteps := 4000000) only [go_sem, q1, hz]) | (refine ⟨_, .given (hf := h24) (hd := rfl) (ha := rfl), ?_⟩; simp (maxSteps := 4000000) only [go_sem, q1, hz]) | (refine ⟨_, .given (hf := h25) (hd := rfl) (ha := rfl), ?_⟩; simp (maxSteps := 4000000) only [go_sem, q1, hz]) | (refine ⟨_, .given (hf := h22) (hd := rfl) (ha := rfl), ?_⟩; simp (maxSteps := 4000000) only [go_sem, q1, hz]))); refine hK _ ?_; clear hK K) | refine z13 ?_ | refine z15 ?_ | refine z10 ?_ | refine z8 ?_ | refine z6 rfl ?_ | refine z12 ?_ | refine z3 ?_ | refine z16 ?_ | refine z11 ?_ | refine z4 ?_)
      simp (maxSteps := 4000000) only [go_sem]
end Go.Ab
