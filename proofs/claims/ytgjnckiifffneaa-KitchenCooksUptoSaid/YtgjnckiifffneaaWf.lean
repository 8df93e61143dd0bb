/- A walk engine over abstract states, and the contracts of the functions that the statement reaches: part 6. -/
import Derived.Test.YtgjnckiifffneaaWe
set_option linter.unusedVariables false
set_option linter.unusedSimpArgs false
set_option linter.unnecessarySimpa false
namespace Go.Ab
open Go.RowKit Go.Proofs
set_option maxHeartbeats 16000000
set_option maxRecDepth 20000
attribute [local irreducible] WalkL Walk
theorem z1002 (k : Kitchen) (hg : KitGood k) (M C : List (List Int)) (hM : shapedB (menuB k) M k.days = true) (hC : shapedB countB C k.days = true) :
    Fn Try.prog 58 [.agg k.cells, .sl (listRows M), .sl (listRows C)] (.tup [.sl (intRows (endSt k M (cntOf C)).1), .i (endSt k M (cntOf C)).2, .i ((lastD k M (cntOf C) M.length : Nat) : Int)]) := by
  have hbl := hg.batches
  have hdy := hg.days
  have hMl := z46 hM
  have hCl := z46 hC
  have hc := z694 hg hC
  obtain ⟨cnt, hcnt⟩ : ∃ cnt, cnt = cntOf C := ⟨_, rfl⟩
  rw [← hcnt] at hc ⊢
  have ha0 : (amtK k).take 0 = [] := rfl
  refine z22 83 Try.call58 Try.func58 rfl (by decide) fun J => ?_
  simp (maxSteps := 4000000) only [go_sem, St.start, Try.ntmps58, Try.results58, Kitchen.cells]
  repeat (first | refine nx (by first | (constructor; done) | exact .other rfl) ?_ | (refine z10 fun K hK => ?_; simp (maxSteps := 4000000) only [go_sem]; refine hK _ ?_; clear hK K))
  refine z17 (fun (i : Nat) => [(9, .d (.i (i : Int))), (6, .own 29)]) (fun i => [(29, some (.arr 3 1 (intRows ((amtK k).take i))))]) (fun i => i ≤ k.batches.length) (fun i => k.batches.length - i) 0 ?_ (Nat.zero_le _) ?_
  · simp (maxSteps := 4000000) only [go_sem]
    refine z13 [29] ?_ ?_ rfl rfl <;> simp [lessT, lessM, lessB, AV.less, intRows]
  · intro i hi
    simp (maxSteps := 4000000) only [go_sem]
    repeat (first | refine nx (by first | (constructor; done) | exact .other rfl) ?_ | (refine z10 fun K hK => ?_; simp (maxSteps := 4000000) only [go_sem]; refine hK _ ?_; clear hK K))
    refine z16 rfl (fun hb2 => ?_) (fun hb2 => ?_)
    · have hlt : i < k.batches.length := by simpa using hb2
      have hw : IntKind.i64.wrap ((i : Int) + 1) = ((i + 1 : Nat) : Int) := by rw [z20 (by omega)]; simp
      have gb := z149 hlt
      rw [Batch.row] at gb
      have hni : ¬ ((i : Int) < 0) := by omega
      obtain ⟨A, hA⟩ : ∃ A, A = (amtK k).take i := ⟨_, rfl⟩
      have hAl : A.length ≤ 10 := by rw [hA]; simp; omega
      have hn : A.length + 1 ≤ 549755813888 := by omega
      have e1 : (amtK k).take (i + 1) = A ++ [(batAt k i).amount] := by
        obtain ⟨x, hx⟩ : ∃ x, k.batches[i]? = some x := ⟨_, List.getElem?_eq_getElem hlt⟩
        have hx2 : (amtK k)[i]? = some x.amount := by simp [amtK, hx]
        rw [List.take_add_one, hx2, ← hA, batAt, List.getD, hx]
        rfl
      have s1 : intRows A ++ [[.i (batAt k i).amount]] = intRows ((amtK k).take (i + 1)) := by rw [e1]; simp [intRows]
      rw [← hA]
      repeat (first | refine nx (by first | (constructor; done) | exact .other rfl) ?_ | (refine z10 fun K hK => ?_; simp (maxSteps := 4000000) only [go_sem, gb, hni, hn, s1, hw]; refine hK _ ?_; clear hK K))
      refine ⟨rfl, i + 1, ?_, hlt, by omega⟩
      refine z13 [] ?_ ?_ rfl rfl <;> simp [lessT, lessM, lessB, AV.less]
      all_goals first | done | rfl | trace_state
    · have he : i = k.batches.length := by (have : ¬ i < k.batches.length := by simpa using hb2); omega
      subst he
      have e1 : (amtK k).take k.batches.length = amtK k := by rw [amtK, List.take_of_length_le (by simp)]
      rw [e1]
      repeat (first | refine nx (by first | (constructor; done) | exact .other rfl) ?_ | (refine z10 fun K hK => ?_; simp (maxSteps := 4000000) only [go_sem]; refine hK _ ?_; clear hK K))
      refine z17 (fun (q : Nat × List Int × Int) => [(10, .d (.i (q.1 : Int))), (7, .d (.i q.2.2)), (6, .own 29)]) (fun q => [(29, some (.arr 3 1 (intRows q.2.1)))]) (fun q => q.1 ≤ M.length ∧ runSt k M cnt q.1 = some q.2) (fun q => M.length - q.1) (0, amtK k, 0) ?_ ⟨Nat.zero_le _, rfl⟩ ?_
      · simp (maxSteps := 4000000) only [go_sem]
        refine z13 [] ?_ ?_ rfl rfl <;> simp [lessT, lessM, lessB, AV.less]
        all_goals first | done | rfl | trace_state
      · rintro ⟨d, l, w⟩ ⟨hd, hrun⟩
        dsimp only at hd hrun
        obtain ⟨hla, hll, hw0, hw1⟩ := z135 hg hM hc d (l, w) hd hrun
        dsimp only at hla hll hw0 hw1
        have hsome : (runSt k M cnt d).isSome = true := by rw [hrun]; rfl
        simp (maxSteps := 4000000) only [go_sem]
        repeat (first | refine nx (by first | (constructor; done) | exact .other rfl) ?_ | (refine z10 fun K hK => ?_; simp (maxSteps := 4000000) only [go_sem, z26]; refine hK _ ?_; clear hK K))
        refine z16 rfl (fun hb2 => ?_) (fun hb2 => ?_)
        · have hlt : d < M.length := by simpa using hb2
          have hw : IntKind.i64.wrap ((d : Int) + 1) = ((d + 1 : Nat) : Int) := by rw [z20 (by omega)]; simp
          have hst0 : clrTo k (d : Int) l w 0 = (l, w) := rfl
          obtain ⟨R, hR⟩ : ∃ R, R = clrTo k (d : Int) l w := ⟨_, rfl⟩
          have hRl : ∀ j, (R j).1.length = l.length := by rw [hR]; exact z40 k _ l w
          have hRo : ∀ j, AmtOk (R j).1 ∧ w ≤ (R j).2 ∧ (R j).2 ≤ w + 1000000 * j := by rw [hR]; exact z49 hla
          have hRs : ∀ j, R (j + 1) = if (batAt k j).last < (d : Int) then ((R j).1.set j 0, (R j).2 + getI (R j).1 (j : Int)) else R j := by rw [hR]; exact fun j => rfl
          rw [← hR] at hst0
          repeat (first | refine nx (by first | (constructor; done) | exact .other rfl) ?_ | (refine z10 fun K hK => ?_; simp (maxSteps := 4000000) only [go_sem]; refine hK _ ?_; clear hK K))
          refine z17 (fun (i : Nat) => [(11, .d (.i (i : Int))), (7, .d (.i (R i).2))]) (fun i => [(29, some (.arr 3 1 (intRows (R i).1)))]) (fun i => i ≤ k.batches.length) (fun i => k.batches.length - i) 0 ?_ (Nat.zero_le _) ?_
          · rw [hst0]
            simp (maxSteps := 4000000) only [go_sem]
            refine z13 [] ?_ ?_ rfl rfl <;> simp [lessT, lessM, lessB, AV.less]
            all_goals first | done | rfl | trace_state
          · intro i hi
            have hAl := hRl i
            obtain ⟨hok, hw1', hw2'⟩ := hRo i
            have hnx := hRs i
            obtain ⟨⟨A, v⟩, hAv⟩ : ∃ p, R i = p := ⟨_, rfl⟩
            rw [hAv] at hAl hok hw1' hw2' hnx ⊢
            dsimp only at hAl hok hw1' hw2' hnx ⊢
            have hAk : A.length = k.batches.length := by omega
            simp (maxSteps := 4000000) only [go_sem]
            repeat (first | refine nx (by first | (constructor; done) | exact .other rfl) ?_ | (refine z10 fun K hK => ?_; simp (maxSteps := 4000000) only [go_sem, z37, hAk]; refine hK _ ?_; clear hK K))
            refine z16 rfl (fun hb3 => ?_) (fun hb3 => ?_)
            · have hlti : i < k.batches.length := by simpa using hb3
              have hwi : IntKind.i64.wrap ((i : Int) + 1) = ((i + 1 : Nat) : Int) := by rw [z20 (by omega)]; simp
              have gb := z149 hlti
              rw [Batch.row] at gb
              have hni : ¬ ((i : Int) < 0) := by omega
              have hiA : i < A.length := by omega
              have gA := z30 hiA
              have hgA := hok.get (i : Int)
              have e1 : IntKind.i64.wrap (v + getI A (i : Int)) = v + getI A (i : Int) := z20 (by omega)
              have su : (intRows A).set i [.i 0] = intRows (A.set i 0) := z56 A i 0
              by_cases hq : (batAt k i).last < (d : Int)
              · rw [if_pos hq] at hnx
                have dd : decide ((batAt k i).last < (d : Int)) = true := decide_eq_true hq
                repeat (first | refine z12 rfl ?_ | refine z11 rfl ?_ | refine nx (by first | (constructor; done) | exact .other rfl) ?_ | (refine z10 fun K hK => ?_; simp (maxSteps := 4000000) only [go_sem, gb, hni, dd, hiA, gA, e1, su, hwi]; refine hK _ ?_; clear hK K))
                refine ⟨rfl, i + 1, ?_, hlti, by omega⟩
                rw [hnx]
                refine z13 [] ?_ ?_ rfl rfl <;> simp [lessT, lessM, lessB, AV.less]
                all_goals first | done | rfl | trace_state
              · rw [if_neg hq] at hnx
                have dd : decide ((batAt k i).last < (d : Int)) = false := decide_eq_false hq
                repeat (first | refine z12 rfl ?_ | refine z11 rfl ?_ | refine nx (by first | (constructor; done) | exact .other rfl) ?_ | (refine z10 fun K hK => ?_; simp (maxSteps := 4000000) only [go_sem, gb, hni, dd, hwi]; refine hK _ ?_; clear hK K))
                refine ⟨rfl, i + 1, ?_, hlti, by omega⟩
                rw [hnx]
                refine z13 [] ?_ ?_ rfl rfl <;> simp [lessT, lessM, lessB, AV.less]
                all_goals first | done | rfl | trace_state
            · have he : i = k.batches.length := by (have : ¬ i < k.batches.length := by simpa using hb3); omega
              subst he
              have hclr : clrD k d (l, w) = (A, v) := by rw [← hAv, hR]; rfl
              obtain ⟨r, hr⟩ : ∃ r, M[d]? = some r := ⟨_, List.getElem?_eq_getElem hlt⟩
              obtain ⟨_, hrl, hdo⟩ := z117 hg hM hc hr
              obtain ⟨c, hcd⟩ : ∃ c, C[d]? = some c := ⟨_, List.getElem?_eq_getElem (by omega)⟩
              obtain ⟨x, hx, hxo⟩ := z153 hC hcd
              have ex : k.days.getD d [] = x := by rw [List.getD, hx]; rfl
              have hcl := z73 hxo
              have ec : cnt d = fun (g : Nat) => getI c (g : Int) := by funext g; rw [hcnt, cntOf, List.getD_eq_getElem?_getD, hcd]; rfl
              have hMr : M.getD d [] = r := by rw [List.getD, hr]; rfl
              have hCr : C.getD d [] = c := by rw [List.getD, hcd]; rfl
              rw [ec] at hdo
              have h85 := z1024 k hg A r c (by omega) hok hdo (by rw [hrl, ex, hcl])
              have hnd0 : needD k M cnt d = needL k r fun (g : Nat) => getI c (g : Int) := by rw [needD, hMr, ec]
              have hstep : runSt k M cnt (d + 1) = (takeTo k (ordK k) (needL k r fun (g : Nat) => getI c (g : Int)) A k.allerg.length).map fun l => (l, v) := by rw [runSt, hrun, ← hnd0]; dsimp only; rw [hclr]
              have gm := z493 (M := M) (j := d) hlt
              have gc := z493 (M := C) (j := d) (by omega)
              rw [← hMr, ← hCr] at h85 hstep
              have hnd : ¬ ((d : Int) < 0) := by omega
              obtain ⟨Cl, hCl2⟩ : ∃ X, X = A := ⟨_, rfl⟩
              rw [← hCl2] at h85 hstep hclr ⊢
              repeat (first | refine z24 ?_ | refine z23 ?_ | refine z18 ?_ | refine z19 ?_ | refine z15 ?_ | refine z14 ?_ | refine z118 ?_ | refine z110 ?_ | refine z120 ?_)
              refine z25 [29] ?_
              simp (maxSteps := 4000000) only [go_sem]
              cases htk : takeTo k (ordK k) (needL k (M.getD d []) fun (g : Nat) => getI (C.getD d []) (g : Int)) Cl k.allerg.length with
              | none =>
                rw [htk] at h85 hstep
                simp only [ServeC] at h85
                rw [Kitchen.cells] at h85
                have hnone : runSt k M cnt (d + 1) = none := hstep
                have eD : lastD k M cnt M.length = d := z233 hsome hnone (by omega)
                have eE : endSt k M cnt = (Cl, v) := by
                  rw [endSt, eD, hrun, if_pos hlt]
                  exact hclr
                rw [eD, eE]
                refine z88 (fun b => [(60, bif b 0 then .undef else .agg [.d (.sl (intRows k.allerg)), .d (.sl (batRows k.batches)), .d (.sl (dishRows k.dishes)), .d (.sl (dayRows k.days))]), (61, bif b 1 then .undef else .d (.sl (intRows Cl))), (62, bif b 2 then .undef else .d (.sl (listRows M))), (63, bif b 3 then .undef else .d (.i (d : Int))),
                    (64, bif b 4 then .undef else .d (.ptr [.sl (intRows (M.getD d []))] 0)), (65, bif b 5 then .undef else .d (.sl (intRows (M.getD d [])))), (66, bif b 6 then .undef else .d (.sl (listRows C))), (67, bif b 7 then .undef else .d (.i (d : Int))), (68, bif b 8 then .undef else .d (.ptr [.sl (intRows (C.getD d []))] 0)), (69, bif b 9 then .undef else .d (.sl (intRows (C.getD d [])))), (70, bif b 10 then .undef else .d (.tup [.sl (intRows Cl), .bool false])), (59, bif b 11 then .undef else .d (.tup [.sl (intRows Cl), .bool false])), (71, bif b 12 then .undef else .d (.sl (intRows Cl))), (72, bif b 13 then .undef else .d (.bool false)), (12, bif b 14 then .undef else .d (.sl (intRows Cl))), (13, bif b 15 then .undef else .d (.bool false))])
                  (fun b => []) 16 (by kernel_rfl) (by kernel_rfl) (by kernel_rfl) (by decide) ?_ ?_ (Weak.refl _) ?_
                · simp (maxSteps := 4000000) only [go_sem]
                · refine ⟨?_, ?_, ?_, ?_, ?_, ?_, ?_, ?_, ?_, ?_, ?_, ?_, ?_, ?_, ?_, ?_, trivial⟩
                  all_goals
                    intro b hbm hdm _
                    simp only [depsM, Region.binds, true_and, and_true, Nat.zero_add, Nat.reduceAdd, reduceCtorEq, forall_const] at hdm
                    refine ⟨rfl, rfl, ?_⟩
                    simp (maxSteps := 4000000) only [go_sem, hbm, hdm, gm, gc, hnd]
                  · refine ⟨_, .given (hf := h85) (hd := rfl) (ha := rfl), ?_⟩
                    simp (maxSteps := 4000000) only [go_sem, hbm, hdm]
                · intro K hK
                  simp (maxSteps := 4000000) only [go_sem]
                  refine hK _ _ ?_
                  clear hK K
                  repeat (first | refine z12 rfl ?_ | refine z11 rfl ?_ | refine nx (by first | (constructor; done) | exact .other rfl) ?_ | (refine z10 fun K hK => ?_; simp (maxSteps := 4000000) only [go_sem]; refine hK _ ?_; clear hK K))
                  simp (maxSteps := 4000000) only [go_sem]
              | some c' =>
                rw [htk] at h85 hstep
                simp only [ServeC] at h85
                rw [Kitchen.cells] at h85
                have hsm : runSt k M cnt (d + 1) = some (c', v) := hstep
                refine z88 (fun b => [(60, bif b 0 then .undef else .agg [.d (.sl (intRows k.allerg)), .d (.sl (batRows k.batches)), .d (.sl (dishRows k.dishes)), .d (.sl (dayRows k.days))]), (61, bif b 1 then .undef else .d (.sl (intRows Cl))), (62, bif b 2 then .undef else .d (.sl (listRows M))), (63, bif b 3 then .undef else .d (.i (d : Int))),
                    (64, bif b 4 then .undef else .d (.ptr [.sl (intRows (M.getD d []))] 0)), (65, bif b 5 then .undef else .d (.sl (intRows (M.getD d [])))), (66, bif b 6 then .undef else .d (.sl (listRows C))), (67, bif b 7 then .undef else .d (.i (d : Int))), (68, bif b 8 then .undef else .d (.ptr [.sl (intRows (C.getD d []))] 0)), (69, bif b 9 then .undef else .d (.sl (intRows (C.getD d [])))), (70, bif b 10 then .undef else .tup [.own 21, .d (.bool true)]), (59, bif b 11 then .undef else .tup [.own 21, .d (.bool true)]), (71, bif b 12 then .undef else .own 21), (72, bif b 13 then .undef else .d (.bool true)), (12, bif b 14 then .undef else .own 21), (13, bif b 15 then .undef else .d (.bool true))])
                  (fun b => [(21, bif b 10 then none else some (.arr 3 1 (intRows c')))]) 16 (by kernel_rfl) (by kernel_rfl) (by kernel_rfl) (by decide) ?_ ?_ (Weak.refl _) ?_
                · simp (maxSteps := 4000000) only [go_sem]
                · refine ⟨?_, ?_, ?_, ?_, ?_, ?_, ?_, ?_, ?_, ?_, ?_, ?_, ?_, ?_, ?_, ?_, trivial⟩
                  all_goals
                    intro b hbm hdm _
                    simp only [depsM, Region.binds, true_and, and_true, Nat.zero_add, Nat.reduceAdd, reduceCtorEq, forall_const] at hdm
                    refine ⟨rfl, rfl, ?_⟩
                    simp (maxSteps := 4000000) only [go_sem, hbm, hdm, gm, gc, hnd]
                  · refine ⟨_, .made (news := [21]) (hf := h85) (hd := rfl) (hn := by decide) (hl := rfl) (hnew := rfl) (hx := rfl), ?_⟩
                    simp (maxSteps := 4000000) only [go_sem, List.map_cons, List.map_nil, hbm, hdm]
                · intro K hK
                  simp (maxSteps := 4000000) only [go_sem]
                  refine hK _ _ ?_
                  clear hK K
                  repeat (first | refine z24 ?_ | refine z23 ?_ | refine z18 ?_ | refine z19 ?_ | refine z15 ?_ | refine z14 ?_)
                  refine z10 fun K hK => ?_
                  simp (maxSteps := 4000000) only [go_sem]
                  refine hK _ ?_
                  clear hK K
                  refine z11 rfl ?_
                  refine z243 21 29 ?_
                  simp (maxSteps := 4000000) only [go_sem]
                  repeat (first | refine nx (by first | (constructor; done) | exact .other rfl) ?_ | (refine z10 fun K hK => ?_; simp (maxSteps := 4000000) only [go_sem, hw]; refine hK _ ?_; clear hK K))
                  refine ⟨rfl, (d + 1, c', v), ?_, ⟨hlt, hsm⟩, by dsimp only; omega⟩
                  refine z13 [] ?_ ?_ rfl rfl <;> simp [lessT, lessM, lessB, AV.less]
                  all_goals first | done | rfl | trace_state
        · have he : d = M.length := by (have : ¬ d < M.length := by simpa using hb2); omega
          subst he
          have eD : lastD k M cnt M.length = M.length := z204 hsome
          have eE : endSt k M cnt = (l, w) := by
            rw [endSt, eD, hrun, if_neg (Nat.lt_irrefl _)]
            rfl
          rw [eD, eE]
          repeat (first | refine nx (by first | (constructor; done) | exact .other rfl) ?_ | (refine z10 fun K hK => ?_; simp (maxSteps := 4000000) only [go_sem, z26]; refine hK _ ?_; clear hK K))
          simp (maxSteps := 4000000) only [go_sem]
end Go.Ab
namespace Go.Ab
open Go.RowKit Go.Proofs
set_option maxHeartbeats 16000000
set_option maxRecDepth 20000
attribute [local irreducible] WalkL Walk
def pickC (k : Kitchen) (b : Bool) (d g : Nat) : Int := if b = true then (dinAt k d g).count.hi else (dinAt k d g).count.lo
theorem z935 {k : Kitchen} {b : Bool} {d g : Nat} (hd : d < k.days.length) (hg : g < (k.days.getD d []).length) : cntOf (endsL k b) d g = pickC k b d g := by
  obtain ⟨x, hx⟩ : ∃ x, k.days[d]? = some x := ⟨_, List.getElem?_eq_getElem hd⟩
  have e : k.days.getD d [] = x := by rw [List.getD_eq_getElem?_getD, hx]; rfl
  rw [e] at hg
  obtain ⟨y, hy⟩ : ∃ y, x[g]? = some y := ⟨_, List.getElem?_eq_getElem hg⟩
  have e2 : dinAt k d g = y := by rw [dinAt, e, List.getD_eq_getElem?_getD, hy]; rfl
  rw [cntOf, endsL, List.getD_eq_getElem?_getD, List.getElem?_map, hx, Option.map_some, Option.getD_some, z207, endRow, List.getD_eq_getElem?_getD, List.getElem?_map, hy, pickC, e2]
  rfl
theorem z310 {k : Kitchen} (hg : KitGood k) (b : Bool) : shapedB countB (endsL k b) k.days = true := by
  refine z488 (by simp [endsL]) fun i r x h1 h2 => ?_
  rw [endsL, List.getElem?_map, h2] at h1
  cases h1
  refine z676 (by simp [endRow]) fun g n y h3 h4 => ?_
  rw [endRow, List.getElem?_map, h4] at h3
  cases h3
  have := ((hg.groups x (List.mem_of_getElem? h2)).2 y (List.mem_of_getElem? h4)).2
  refine z45.2 ?_
  cases b <;> dsimp only [Bool.false_eq_true, if_true, if_false] <;> simp only [if_true, if_false, Bool.false_eq_true] <;> omega
theorem z288 {k : Kitchen} {ds : List Int} {c c' : Nat → Int} {good : Nat} : ∀ n, (∀ g, g < n → c g = c' g) → needG k ds c good n = needG k ds c' good n
  | 0, _ => rfl
  | n + 1, h => by rw [needG, needG, z288 n fun g hg => h g (by omega), h n (by omega)]
theorem z646 {k : Kitchen} {M : List (List Int)} {c c' : Nat → Nat → Int} {d : Nat} (h : ∀ g, g < (M.getD d []).length → c d g = c' d g) : needD k M c d = needD k M c' d := by
  rw [needD, needD, needL, needL]
  exact List.map_congr_left fun x _ => z288 _ h
theorem z180 {k : Kitchen} {M : List (List Int)} {c c' : Nat → Nat → Int} : ∀ d, (∀ e g, e < d → g < (M.getD e []).length → c e g = c' e g) → runSt k M c d = runSt k M c' d
  | 0, _ => rfl
  | d + 1, h => by rw [runSt, runSt, z180 d fun e g he => h e g (by omega), z646 fun g hg => h d g (by omega) hg]
theorem z295 {k : Kitchen} {M : List (List Int)} {c c' : Nat → Nat → Int} : ∀ d, (∀ e g, e < d → g < (M.getD e []).length → c e g = c' e g) → lastD k M c d = lastD k M c' d
  | 0, _ => rfl
  | d + 1, h => by rw [lastD, lastD, z180 (d + 1) h, z295 d fun e g he => h e g (by omega)]
theorem z836 {k : Kitchen} (hg : KitGood k) {M : List (List Int)} (hM : shapedB (menuB k) M k.days = true) (b : Bool) :
    lastD k M (cntOf (endsL k b)) M.length = lastD k M (pickC k b) M.length ∧ endSt k M (cntOf (endsL k b)) = endSt k M (pickC k b) := by
  have key : ∀ e g, e < M.length → g < (M.getD e []).length → cntOf (endsL k b) e g = pickC k b e g := fun e g he hgl => by
    obtain ⟨r, hr⟩ : ∃ r, M[e]? = some r := ⟨_, List.getElem?_eq_getElem he⟩
    obtain ⟨h1, h2, _⟩ := z117 hg hM (z694 hg (z310 hg b)) hr
    rw [List.getD_eq_getElem?_getD, hr, Option.getD_some, h2] at hgl
    exact z935 h1 hgl
  have hl := z295 (k := k) M.length key
  refine ⟨hl, ?_⟩
  rw [endSt, endSt, hl, z180 (k := k) _ fun e g he => key e g (by have := z436 k M (pickC k b) M.length; omega)]
theorem z917 (k : Kitchen) (M : List (List Int)) : lastD k M (pickC k true) M.length = mostK k M := rfl
theorem z916 (k : Kitchen) (M : List (List Int)) : lastD k M (pickC k false) M.length = leastK k M := rfl
theorem z1000 (k : Kitchen) (hg : KitGood k) (M : List (List Int)) (hM : shapedB (menuB k) M k.days = true) (b : Bool) : Fn Try.prog 75 [.agg k.cells, .sl (listRows M), .bool b] (.i ((lastD k M (pickC k b) M.length : Nat) : Int)) := by
  have h59 := z1043 k hg b
  have h58 := z1002 k hg M (endsL k b) hM (z310 hg b)
  rw [(z836 hg hM b).1] at h58
  obtain ⟨E, hE⟩ : ∃ E, E = endSt k M (cntOf (endsL k b)) := ⟨_, rfl⟩
  rw [← hE] at h58
  rw [Kitchen.cells] at h58 h59
  refine z22 21 Try.call75 Try.func75 rfl (by decide) fun J => ?_
  simp (maxSteps := 4000000) only [go_sem, St.start, Try.ntmps75, Try.results75, Kitchen.cells]
  repeat (first | refine nx (by first | (constructor; done) | exact .other rfl) ?_ | (refine z10 fun K hK => ?_; simp (maxSteps := 4000000) only [go_sem]; refine hK _ ?_; clear hK K))
  refine z21 (by kernel_rfl) (by kernel_rfl) fun K hK => ?_
  simp (maxSteps := 4000000) only [go_sem]
  refine ⟨_, .fn (hf := h59) (hd := rfl) (hr := .inr rfl), ?_⟩
  simp (maxSteps := 4000000) only [go_sem]
  refine ⟨_, .fn (hf := h58) (hd := rfl) (hr := .inr rfl), ?_⟩
  simp (maxSteps := 4000000) only [go_sem]
  refine ⟨by kernel_rfl, hK _ ?_⟩
  clear hK K
  repeat (first | refine nx (by first | (constructor; done) | exact .other rfl) ?_ | (refine z10 fun K hK => ?_; simp (maxSteps := 4000000) only [go_sem]; refine hK _ ?_; clear hK K))
  simp (maxSteps := 4000000) only [go_sem]
end Go.Ab
namespace Go.Ab
open Go.RowKit Go.Proofs
set_option maxHeartbeats 16000000
set_option maxRecDepth 20000
attribute [local irreducible] WalkL Walk
theorem z1050 (k : Kitchen) (M : List (List Int)) (hs : KitSmall k) (hM : M.length < 2 ^ 30) (hMr : ∀ r ∈ M, r.length < 2 ^ 30) :
    Fn Try.prog 38 [.agg k.cells, .sl (listRows M)] (.tup (if openK k M = 0 then [.i (mostK k M), .i (leastK k M), .i 0] else [.i 0, .i 0, .i (openK k M)])) := by
  have h50 := z1004 k M hs hM hMr
  by_cases h0 : ¬ openK k M = 0
  · have hb : (openK k M == 0) = false := by simpa using h0
    have hb2 : (openK k M != 0) = true := by simpa using h0
    rw [if_neg h0]
    rw [Kitchen.cells] at h50 ⊢
    refine z22 20 Try.call38 Try.func38 rfl (by decide) fun J => ?_
    simp (maxSteps := 4000000) only [go_sem, St.start, Try.ntmps38, Try.results38]
    repeat (first | refine z12 rfl ?_ | refine z11 rfl ?_ | refine nx (by first | (constructor; done) | exact .other rfl) ?_ | (refine z10 fun K hK => ?_; simp (maxSteps := 4000000) only [go_sem, hb, hb2]; (repeat (first | (refine ⟨_, .lent (hf := h50) (hd := rfl) (hr := rfl), ?_⟩; simp (maxSteps := 4000000) only [go_sem, hb, hb2]) | (refine ⟨_, .given (hf := h50) (hd := rfl) (ha := rfl), ?_⟩; simp (maxSteps := 4000000) only [go_sem, hb, hb2]))); refine hK _ ?_; clear hK K))
    simp (maxSteps := 4000000) only [go_sem]
  have h0 : openK k M = 0 := Decidable.not_not.1 h0
  obtain ⟨hg, hsh⟩ := z201 h0
  have h75a := z1000 k hg M hsh true
  have h75b := z1000 k hg M hsh false
  rw [z917] at h75a
  rw [z916] at h75b
  rw [if_pos h0]
  rw [h0] at h50
  rw [Kitchen.cells] at h50 h75a h75b ⊢
  refine z22 20 Try.call38 Try.func38 rfl (by decide) fun J => ?_
  simp (maxSteps := 4000000) only [go_sem, St.start, Try.ntmps38, Try.results38]
  repeat (first | refine z12 rfl ?_ | refine z11 rfl ?_ | refine nx (by first | (constructor; done) | exact .other rfl) ?_ | (refine z10 fun K hK => ?_; simp (maxSteps := 4000000) only [go_sem]; (repeat (first | (refine ⟨_, .lent (hf := h50) (hd := rfl) (hr := rfl), ?_⟩; simp (maxSteps := 4000000) only [go_sem]) | (refine ⟨_, .given (hf := h50) (hd := rfl) (ha := rfl), ?_⟩; simp (maxSteps := 4000000) only [go_sem]))); refine hK _ ?_; clear hK K))
  refine z21 (by kernel_rfl) (by kernel_rfl) fun K hK => ?_
  simp (maxSteps := 4000000) only [go_sem]
  refine ⟨_, .fn (hf := h75a) (hd := rfl) (hr := .inr rfl), ?_⟩
  simp (maxSteps := 4000000) only [go_sem]
  refine ⟨_, .fn (hf := h75b) (hd := rfl) (hr := .inr rfl), ?_⟩
  simp (maxSteps := 4000000) only [go_sem]
  refine ⟨by kernel_rfl, hK _ ?_⟩
  clear hK K
  repeat (first | refine nx (by first | (constructor; done) | exact .other rfl) ?_ | (refine z10 fun K hK => ?_; simp (maxSteps := 4000000) only [go_sem]; refine hK _ ?_; clear hK K))
  simp (maxSteps := 4000000) only [go_sem]
end Go.Ab
namespace Go.Ab
open Go.RowKit Go.Proofs
set_option maxHeartbeats 16000000
set_option maxRecDepth 20000
attribute [local irreducible] WalkL Walk
theorem z1031 (k : Kitchen) (hg : KitGood k) (no : Int) : FnS Try.prog 74 [.agg k.cells, .i no] 3 1 (intRows (suitL k no)) := by
  have hd := hg.dishes
  have h34 := fun (n : Nat) hn => z1005 k hg n no hn
  unfold suitL
  rw [Kitchen.cells] at h34
  refine z208 23 Try.call74 Try.func74 rfl (by decide) fun J => ?_
  simp (maxSteps := 4000000) only [go_sem, St.start, Try.ntmps74, Try.results74, Kitchen.cells]
  repeat (first | refine nx (by first | (constructor; done) | exact .other rfl) ?_ | (refine z10 fun K hK => ?_; simp (maxSteps := 4000000) only [go_sem]; refine hK _ ?_; clear hK K))
  refine z17 (fun (i : Nat) => [(6, .d (.i (i : Int))), (5, .own 21)]) (fun i => [(21, some (.arr 3 1 (intRows (suitTo7 k no i))))]) (fun i => i ≤ k.dishes.length) (fun i => k.dishes.length - i) 0 ?_ (Nat.zero_le _) ?_
  · simp (maxSteps := 4000000) only [go_sem]
    refine z13 [21] ?_ ?_ rfl rfl <;> simp [lessT, lessM, lessB, AV.less, suitTo7, intRows]
  · intro i hi
    simp (maxSteps := 4000000) only [go_sem]
    repeat (first | refine nx (by first | (constructor; done) | exact .other rfl) ?_ | (refine z10 fun K hK => ?_; simp (maxSteps := 4000000) only [go_sem]; refine hK _ ?_; clear hK K))
    refine z16 rfl (fun hb => ?_) (fun hb => ?_)
    · have hlt : i < k.dishes.length := by simpa using hb
      have hw : IntKind.i64.wrap ((i : Int) + 1) = ((i + 1 : Nat) : Int) := by rw [z20 (by omega)]; simp
      have h34i := h34 i hlt
      have hl := z122 k no i
      obtain ⟨L, hL⟩ : ∃ L, L = suitTo7 k no i := ⟨_, rfl⟩
      rw [← hL] at hl ⊢
      have hn : L.length + 1 ≤ 549755813888 := by omega
      cases q : suitsB k (i : Int) no
      · rw [q] at h34i
        have e := z483 q
        rw [← hL] at e
        repeat (first | refine z12 rfl ?_ | refine z11 rfl ?_ | refine nx (by first | (constructor; done) | exact .other rfl) ?_ | (refine z10 fun K hK => ?_; simp (maxSteps := 4000000) only [go_sem, hw]; (repeat (first | (refine ⟨_, .lent (hf := h34i) (hd := rfl) (hr := rfl), ?_⟩; simp (maxSteps := 4000000) only [go_sem, hw]) | (refine ⟨_, .given (hf := h34i) (hd := rfl) (ha := rfl), ?_⟩; simp (maxSteps := 4000000) only [go_sem, hw]))); refine hK _ ?_; clear hK K))
        refine ⟨rfl, i + 1, ?_, hlt, by omega⟩
        rw [e]
        refine z13 [] ?_ ?_ rfl rfl <;> simp [lessT, lessM, lessB, AV.less]
        all_goals first | done | rfl | trace_state
      · rw [q] at h34i
        have e := z358 q
        rw [← hL] at e
        have s1 : intRows L ++ [[.i (i : Int)]] = intRows (suitTo7 k no (i + 1)) := by rw [e]; simp [intRows]
        repeat (first | refine z12 rfl ?_ | refine z11 rfl ?_ | refine nx (by first | (constructor; done) | exact .other rfl) ?_ | (refine z10 fun K hK => ?_; simp (maxSteps := 4000000) only [go_sem, hn, s1, hw]; (repeat (first | (refine ⟨_, .lent (hf := h34i) (hd := rfl) (hr := rfl), ?_⟩; simp (maxSteps := 4000000) only [go_sem, hn, s1, hw]) | (refine ⟨_, .given (hf := h34i) (hd := rfl) (ha := rfl), ?_⟩; simp (maxSteps := 4000000) only [go_sem, hn, s1, hw]))); refine hK _ ?_; clear hK K))
        refine ⟨rfl, i + 1, ?_, hlt, by omega⟩
        refine z13 [] ?_ ?_ rfl rfl <;> simp [lessT, lessM, lessB, AV.less]
        all_goals first | done | rfl | trace_state
    · have he : i = k.dishes.length := by (have : ¬ i < k.dishes.length := by simpa using hb); omega
      subst he
      repeat (first | refine nx (by first | (constructor; done) | exact .other rfl) ?_ | (refine z10 fun K hK => ?_; simp (maxSteps := 4000000) only [go_sem]; refine hK _ ?_; clear hK K))
      simp (maxSteps := 4000000) only [go_sem]
theorem z1052 (k : Kitchen) (hs : KitSmall k) (no : Int) : Fn Try.prog 36 [.agg k.cells, .i no] (.tup [.sl (intRows (suitsP k no).1), .i (suitsP k no).2]) := by
  have h32 := z972 k hs
  have h51 := z700 no 0 255
  rw [show withinB no 0 255 = setB no from rfl] at h51
  unfold suitsP
  by_cases h0 : ¬ kitE k = 0
  · have hb : (kitE k == 0) = false := by simpa using h0
    have hb2 : (kitE k != 0) = true := by simpa using h0
    rw [if_neg h0]
    rw [Kitchen.cells] at h32 ⊢
    dsimp only
    refine z22 18 Try.call36 Try.func36 rfl (by decide) fun J => ?_
    simp (maxSteps := 4000000) only [go_sem, St.start, Try.ntmps36, Try.results36]
    repeat (first | refine z12 rfl ?_ | refine z11 rfl ?_ | refine nx (by first | (constructor; done) | exact .other rfl) ?_ | (refine z10 fun K hK => ?_; simp (maxSteps := 4000000) only [go_sem, hb, hb2]; (repeat (first | (refine ⟨_, .lent (hf := h32) (hd := rfl) (hr := rfl), ?_⟩; simp (maxSteps := 4000000) only [go_sem, hb, hb2]) | (refine ⟨_, .given (hf := h32) (hd := rfl) (ha := rfl), ?_⟩; simp (maxSteps := 4000000) only [go_sem, hb, hb2]))); refine hK _ ?_; clear hK K))
    simp (maxSteps := 4000000) only [go_sem, intRows, List.map_nil]
  have h0 : kitE k = 0 := Decidable.not_not.1 h0
  have hg : KitGood k := z115 (z106.1 h0)
  have h74 := z1031 k hg no
  rw [if_pos h0]
  rw [h0] at h32
  cases hn : setB no with
  | false =>
    rw [hn] at h51
    rw [if_neg (by decide)]
    rw [Kitchen.cells] at h32 ⊢
    dsimp only
    refine z22 18 Try.call36 Try.func36 rfl (by decide) fun J => ?_
    simp (maxSteps := 4000000) only [go_sem, St.start, Try.ntmps36, Try.results36]
    repeat (first | refine z12 rfl ?_ | refine z11 rfl ?_ | refine nx (by first | (constructor; done) | exact .other rfl) ?_ | (refine z10 fun K hK => ?_; simp (maxSteps := 4000000) only [go_sem]; (repeat (first | (refine ⟨_, .lent (hf := h32) (hd := rfl) (hr := rfl), ?_⟩; simp (maxSteps := 4000000) only [go_sem]) | (refine ⟨_, .lent (hf := h51) (hd := rfl) (hr := rfl), ?_⟩; simp (maxSteps := 4000000) only [go_sem]) | (refine ⟨_, .given (hf := h32) (hd := rfl) (ha := rfl), ?_⟩; simp (maxSteps := 4000000) only [go_sem]) | (refine ⟨_, .given (hf := h51) (hd := rfl) (ha := rfl), ?_⟩; simp (maxSteps := 4000000) only [go_sem]))); refine hK _ ?_; clear hK K))
    simp (maxSteps := 4000000) only [go_sem, intRows, List.map_nil]
  | true =>
    rw [hn] at h51
    rw [if_pos rfl]
    rw [Kitchen.cells] at h32 h74 ⊢
    dsimp only
    refine z22 18 Try.call36 Try.func36 rfl (by decide) fun J => ?_
    simp (maxSteps := 4000000) only [go_sem, St.start, Try.ntmps36, Try.results36]
    repeat (first | refine z12 rfl ?_ | refine z11 rfl ?_ | refine nx (by first | (constructor; done) | exact .other rfl) ?_ | (refine z10 fun K hK => ?_; simp (maxSteps := 4000000) only [go_sem]; (repeat (first | (refine ⟨_, .lent (hf := h32) (hd := rfl) (hr := rfl), ?_⟩; simp (maxSteps := 4000000) only [go_sem]) | (refine ⟨_, .lent (hf := h51) (hd := rfl) (hr := rfl), ?_⟩; simp (maxSteps := 4000000) only [go_sem]) | (refine ⟨_, .given (hf := h32) (hd := rfl) (ha := rfl), ?_⟩; simp (maxSteps := 4000000) only [go_sem]) | (refine ⟨_, .given (hf := h51) (hd := rfl) (ha := rfl), ?_⟩; simp (maxSteps := 4000000) only [go_sem]))); refine hK _ ?_; clear hK K))
    refine z10 fun K hK => ?_
    simp (maxSteps := 4000000) only [go_sem]
    refine ⟨_, .lentS (hdst := rfl) (hf := h74) (hd := rfl) (hr := z38 _) (hfr := rfl), ?_⟩
    simp (maxSteps := 4000000) only [go_sem]
    refine hK _ ?_
    clear hK K
    repeat (first | refine nx (by first | (constructor; done) | exact .other rfl) ?_ | (refine z10 fun K hK => ?_; simp (maxSteps := 4000000) only [go_sem]; refine hK _ ?_; clear hK K))
    simp (maxSteps := 4000000) only [go_sem]
theorem z1051 (k : Kitchen) (M C : List (List Int)) (hs : KitSmall k) (hM : M.length < 2 ^ 30) (hMr : ∀ r ∈ M, r.length < 2 ^ 30) (hC : C.length < 2 ^ 30) (hCr : ∀ r ∈ C, r.length < 2 ^ 30) :
    Fn Try.prog 37 [.agg k.cells, .sl (listRows M), .sl (listRows C)] (.tup [.sl (intRows (cookP k M C).1), .i (cookP k M C).2.1, .i ((cookP k M C).2.2.1 : Nat), .i (cookP k M C).2.2.2]) := by
  have h50 := z1004 k M hs hM hMr
  unfold cookP cookE
  by_cases h0 : ¬ openK k M = 0
  · have hb : (openK k M == 0) = false := by simpa using h0
    have hb2 : (openK k M != 0) = true := by simpa using h0
    rw [if_neg h0, if_neg h0]
    rw [Kitchen.cells] at h50 ⊢
    dsimp only
    refine z22 32 Try.call37 Try.func37 rfl (by decide) fun J => ?_
    simp (maxSteps := 4000000) only [go_sem, St.start, Try.ntmps37, Try.results37]
    repeat (first | refine z12 rfl ?_ | refine z11 rfl ?_ | refine nx (by first | (constructor; done) | exact .other rfl) ?_ | (refine z10 fun K hK => ?_; simp (maxSteps := 4000000) only [go_sem, hb, hb2]; (repeat (first | (refine ⟨_, .lent (hf := h50) (hd := rfl) (hr := rfl), ?_⟩; simp (maxSteps := 4000000) only [go_sem, hb, hb2]) | (refine ⟨_, .given (hf := h50) (hd := rfl) (ha := rfl), ?_⟩; simp (maxSteps := 4000000) only [go_sem, hb, hb2]))); refine hK _ ?_; clear hK K))
    simp (maxSteps := 4000000) only [go_sem, intRows, List.map_nil]
  have h0 : openK k M = 0 := Decidable.not_not.1 h0
  obtain ⟨hg, hsh⟩ := z201 h0
  have h24 := z1055 k hg C hC hCr
  rw [if_pos h0]
  rw [h0] at h50
  cases hc : shapedB countB C k.days with
  | false =>
    rw [hc] at h24
    rw [if_neg (by decide : ¬ (if false = true then (0 : Int) else 72) = 0), if_neg (by decide : ¬ false = true)]
    rw [Kitchen.cells] at h50 h24 ⊢
    refine z22 32 Try.call37 Try.func37 rfl (by decide) fun J => ?_
    simp (maxSteps := 4000000) only [go_sem, St.start, Try.ntmps37, Try.results37]
    repeat (first | refine z12 rfl ?_ | refine z11 rfl ?_ | refine nx (by first | (constructor; done) | exact .other rfl) ?_ | (refine z10 fun K hK => ?_; simp (maxSteps := 4000000) only [go_sem]; (repeat (first | (refine ⟨_, .lent (hf := h50) (hd := rfl) (hr := rfl), ?_⟩; simp (maxSteps := 4000000) only [go_sem]) | (refine ⟨_, .lent (hf := h24) (hd := rfl) (hr := rfl), ?_⟩; simp (maxSteps := 4000000) only [go_sem]) | (refine ⟨_, .given (hf := h50) (hd := rfl) (ha := rfl), ?_⟩; simp (maxSteps := 4000000) only [go_sem]) | (refine ⟨_, .given (hf := h24) (hd := rfl) (ha := rfl), ?_⟩; simp (maxSteps := 4000000) only [go_sem]))); refine hK _ ?_; clear hK K))
    simp (maxSteps := 4000000) only [go_sem, intRows, List.map_nil]
  | true =>
    rw [hc] at h24
    rw [if_pos rfl, if_pos rfl]
    have h58 := z1002 k hg M C hsh hc
    rw [Kitchen.cells] at h50 h24 h58 ⊢
    dsimp only
    refine z22 32 Try.call37 Try.func37 rfl (by decide) fun J => ?_
    simp (maxSteps := 4000000) only [go_sem, St.start, Try.ntmps37, Try.results37]
    repeat (first | refine z12 rfl ?_ | refine z11 rfl ?_ | refine nx (by first | (constructor; done) | exact .other rfl) ?_ | (refine z10 fun K hK => ?_; simp (maxSteps := 4000000) only [go_sem]; (repeat (first | (refine ⟨_, .lent (hf := h50) (hd := rfl) (hr := rfl), ?_⟩; simp (maxSteps := 4000000) only [go_sem]) | (refine ⟨_, .lent (hf := h24) (hd := rfl) (hr := rfl), ?_⟩; simp (maxSteps := 4000000) only [go_sem]) | (refine ⟨_, .given (hf := h50) (hd := rfl) (ha := rfl), ?_⟩; simp (maxSteps := 4000000) only [go_sem]) | (refine ⟨_, .given (hf := h24) (hd := rfl) (ha := rfl), ?_⟩; simp (maxSteps := 4000000) only [go_sem]))); refine hK _ ?_; clear hK K))
    refine z10 fun K hK => ?_
    simp (maxSteps := 4000000) only [go_sem]
    refine ⟨_, .given (hf := h58) (hd := rfl) (ha := rfl), ?_⟩
    simp (maxSteps := 4000000) only [go_sem]
    refine hK _ ?_
    clear hK K
    repeat (first | refine nx (by first | (constructor; done) | exact .other rfl) ?_ | (refine z10 fun K hK => ?_; simp (maxSteps := 4000000) only [go_sem]; refine hK _ ?_; clear hK K))
    simp (maxSteps := 4000000) only [go_sem]
end Go.Ab
namespace Go.Ab
open Go.RowKit Go.Proofs
def sB (F : Batch → Int) : List Batch → Int
  | [] => 0
  | b :: l => F b + sB F l
def fB (g : Nat) (t : Int) (b : Batch) : Int := if b.good = (g : Int) ∧ t ≤ b.last then b.amount else 0
def upB (b : Batch) (a l : Int) : Batch := ⟨b.good, min 1000000 (b.amount + a), min 30 (b.last + l)⟩
end Go.Ab
namespace Go.Ab
open Go.RowKit Go.Proofs
set_option maxHeartbeats 16000000
set_option maxRecDepth 20000
attribute [local irreducible] WalkL Walk
theorem z987 (k : Kitchen) (hs : KitSmall k) : FnG Try.prog 14 [] [] (List.map AV.d [.agg k.cells]) (.agg [.own 0, .own 1, .own 2, .own 3])
    [.arr 3 1 (intRows k.allerg), .arr 47 3 (batRows k.batches), .arr 72 1 (dishRows k.dishes), .arr 58 1 (dayRows k.days)] := by
  have a1 := hs.allerg
  have a2 := hs.batches
  have a3 := hs.dishes
  have a5 := hs.days
  have e1 : k.allerg.length ≤ 549755813888 := by omega
  have e2 : k.batches.length ≤ 549755813888 := by omega
  have hcl : k.cells.length = 4 := rfl
  have k0 : k.cells[0]? = some (.sl (intRows k.allerg)) := rfl
  have k1 : k.cells[1]? = some (.sl (batRows k.batches)) := rfl
  have k2 : k.cells[2]? = some (.sl (dishRows k.dishes)) := rfl
  have k3 : k.cells[3]? = some (.sl (dayRows k.days)) := rfl
  have hct : k.cells.take 4 = k.cells := rfl
  have hh : headIs 1 (intRows k.allerg) = true := by cases k.allerg <;> rfl
  refine z62 56 Try.call14 Try.func14 rfl (by decide) [6, 10, 34, 53] [] (by simp only [List.length_cons, List.length_nil]; decide) (by kernel_rfl) fun J => ?_
  simp (maxSteps := 4000000) only [go_sem, St.startG, Try.ntmps14, Try.results14, List.map_cons, List.map_nil, List.range_succ,  Kitchen.cells]
  repeat (first | refine nx (by first | (constructor; done) | exact .other rfl) ?_ | (refine z10 fun K hK => ?_; simp (maxSteps := 4000000) only [go_sem]; refine hK _ ?_; clear hK K))
  refine z25 [1] ?_
  simp (maxSteps := 4000000) only [go_sem]
  refine z245 (by kernel_rfl) (by kernel_rfl) (fun m => ⟨[.d (.agg k.cells), .d (.ptr k.cells 0), .box 2 0, bif m 9 then .undef else .box 3 0, .undef, .undef,
      bif m 0 then .undef else (bif m 3 then .own 6 else .undef), sel (m 1) (.ptr k.cells 0), sel (m 2) (.sl (intRows k.allerg)), bif m 3 then .undef else .own 6,
      bif m 4 then .undef else (bif m 7 then .own 10 else .undef), sel (m 5) (.ptr k.cells 1), sel (m 6) (.sl (batRows k.batches)), bif m 7 then .undef else .own 10,
      bif m 8 then .undef else .agg [.own 6, .own 10, .nil, .nil]] ++ List.replicate 41 .undef,
    [none, none, some (.box [.nil, .nil, .nil, .nil]), stB (m 9) (m 10) (.box [.nil, .nil, .nil, .nil]) (.box [.own 6, .own 10, .nil, .nil]), none, none,
      stB (m 0) (m 3) (.arr 3 1 []) (.arr 3 1 (intRows k.allerg)), none, none, none, stB (m 4) (m 7) (.arr 47 3 []) (.arr 47 3 (batRows k.batches))] ++ List.replicate 45 none⟩) ?_ ?_ ?_
  · simp (maxSteps := 4000000) only [go_sem]
    rfl
  · refine ⟨?_, ?_, ?_, ?_, ?_, ?_, ?_, ?_, ?_, ?_, ?_, trivial⟩
    all_goals
      intro m hm hd hc
      simp only [closedM, depsM, Region.binds, true_and, and_true, Nat.zero_add, Nat.reduceAdd, reduceCtorEq, forall_const] at hc hd
      cases h0 : m 0 <;> cases h3 : m 3 <;> cases h4 : m 4 <;> cases h7 : m 7 <;> (try simp [h0, h3, h4, h7] at hc hd hm)
    all_goals
      cases h8 : m 8 <;> cases h9 : m 9 <;> cases h10 : m 10 <;> (try simp [h0, h3, h4, h7, h8, h9, h10] at hc hd hm)
    all_goals
      refine ⟨rfl, rfl, ?_⟩
      simp (maxSteps := 4000000) only [go_sem, hm, hd, h0, h3, h4, h7, h8, h9, h10, hcl, hct, k0, k1, e1, e2, hh, z556, List.nil_append, List.length_nil, Nat.zero_add]
  · simp (maxSteps := 4000000) only [go_sem]
    repeat (first | refine nx (by first | (constructor; done) | exact .other rfl) ?_ | (refine z10 fun K hK => ?_; simp (maxSteps := 4000000) only [go_sem]; refine hK _ ?_; clear hK K))
    refine z17 (fun (i : Nat) => [(4, .d (.i (i : Int)))]) (fun i => [(3, some (.box [.own 6, .own 10, .own 34, .nil])), (34, some (.arr 72 1 (dishRows (k.dishes.take i))))]) (fun i => i ≤ k.dishes.length) (fun i => k.dishes.length - i) 0 ?_ (Nat.zero_le _) ?_
    · simp (maxSteps := 4000000) only [go_sem]
      refine z13 [34] ?_ ?_ rfl rfl <;> simp [lessT, lessM, lessB, AV.less, dishRows]
    · intro i hi
      simp (maxSteps := 4000000) only [go_sem]
      repeat (first | refine nx (by first | (constructor; done) | exact .other rfl) ?_ | (refine z10 fun K hK => ?_; simp (maxSteps := 4000000) only [go_sem, k2]; refine hK _ ?_; clear hK K))
      refine z16 rfl (fun hb => ?_) (fun hb => ?_)
      · have hlt : i < k.dishes.length := by simpa using hb
        have hw : IntKind.i64.wrap ((i : Int) + 1) = ((i + 1 : Nat) : Int) := by rw [z20 (by omega)]; simp
        obtain ⟨x, hx⟩ : ∃ x, k.dishes[i]? = some x := ⟨_, List.getElem?_eq_getElem hlt⟩
        have g1 := z109 hx
        rw [Dish.row] at g1
        have hni : ¬ ((i : Int) < 0) := by omega
        have hxn := hs.needs x (List.mem_of_getElem? hx)
        have e3 : x.needs.length ≤ 549755813888 := by omega
        have hh2 : headIs 1 (intRows x.needs) = true := by cases x.needs <;> rfl
        have hlt2 : (k.dishes.take i).length + 1 ≤ 549755813888 := by rw [List.length_take]; omega
        have htk : dishRows (k.dishes.take i) ++ [[.sl (intRows x.needs)]] = dishRows (k.dishes.take (i + 1)) := by rw [List.take_add_one, hx]; simp [dishRows, Dish.row]
        repeat (first | refine nx (by first | (constructor; done) | exact .other rfl) ?_ | (refine z10 fun K hK => ?_; simp (maxSteps := 4000000) only [go_sem]; refine hK _ ?_; clear hK K))
        refine z151 [31] (by kernel_rfl) (by kernel_rfl) fun K hK => ?_
        simp (maxSteps := 4000000) only [go_sem, k2, g1, hni, e3, hh2, hlt2, htk, List.nil_append, List.length_nil, Nat.zero_add]
        refine ⟨by kernel_rfl, hK _ ?_⟩
        clear hK K
        repeat (first | refine nx (by first | (constructor; done) | exact .other rfl) ?_ | (refine z10 fun K hK => ?_; simp (maxSteps := 4000000) only [go_sem, hw]; refine hK _ ?_; clear hK K))
        refine ⟨rfl, i + 1, ?_, hlt, by omega⟩
        refine z13 [] ?_ ?_ rfl rfl <;> simp [lessT, lessM, lessB, AV.less]
        all_goals first | done | rfl | trace_state
      · have he : i = k.dishes.length := by (have : ¬ i < k.dishes.length := by simpa using hb); omega
        subst he
        rw [List.take_length]
        repeat (first | refine nx (by first | (constructor; done) | exact .other rfl) ?_ | (refine z10 fun K hK => ?_; simp (maxSteps := 4000000) only [go_sem]; refine hK _ ?_; clear hK K))
        refine z17 (fun (i : Nat) => [(5, .d (.i (i : Int)))]) (fun i => [(3, some (.box [.own 6, .own 10, .own 34, .own 53])), (53, some (.arr 58 1 (dayRows (k.days.take i))))]) (fun i => i ≤ k.days.length) (fun i => k.days.length - i) 0 ?_ (Nat.zero_le _) ?_
        · simp (maxSteps := 4000000) only [go_sem]
          refine z13 [53] ?_ ?_ rfl rfl <;> simp [lessT, lessM, lessB, AV.less, dayRows]
        · intro i hi
          simp (maxSteps := 4000000) only [go_sem]
          repeat (first | refine nx (by first | (constructor; done) | exact .other rfl) ?_ | (refine z10 fun K hK => ?_; simp (maxSteps := 4000000) only [go_sem, k3]; refine hK _ ?_; clear hK K))
          refine z16 rfl (fun hb => ?_) (fun hb => ?_)
          · have hlt : i < k.days.length := by simpa using hb
            have hw : IntKind.i64.wrap ((i : Int) + 1) = ((i + 1 : Nat) : Int) := by rw [z20 (by omega)]; simp
            obtain ⟨x, hx⟩ : ∃ x, k.days[i]? = some x := ⟨_, List.getElem?_eq_getElem hlt⟩
            have g1 := z69 hx
            have hni : ¬ ((i : Int) < 0) := by omega
            have hxn := hs.groups x (List.mem_of_getElem? hx)
            have e3 : x.length ≤ 549755813888 := by omega
            have hh2 : headIs 3 (dinRows x) = true := by cases x <;> rfl
            have hlt2 : (k.days.take i).length + 1 ≤ 549755813888 := by rw [List.length_take]; omega
            have htk : dayRows (k.days.take i) ++ [[.sl (dinRows x)]] = dayRows (k.days.take (i + 1)) := by rw [List.take_add_one, hx]; simp [dayRows]
            repeat (first | refine nx (by first | (constructor; done) | exact .other rfl) ?_ | (refine z10 fun K hK => ?_; simp (maxSteps := 4000000) only [go_sem]; refine hK _ ?_; clear hK K))
            refine z151 [51] (by kernel_rfl) (by kernel_rfl) fun K hK => ?_
            simp (maxSteps := 4000000) only [go_sem, k3, g1, hni, e3, hh2, hlt2, htk, List.nil_append, List.length_nil, Nat.zero_add]
            refine ⟨by kernel_rfl, hK _ ?_⟩
            clear hK K
            repeat (first | refine nx (by first | (constructor; done) | exact .other rfl) ?_ | (refine z10 fun K hK => ?_; simp (maxSteps := 4000000) only [go_sem, hw]; refine hK _ ?_; clear hK K))
            refine ⟨rfl, i + 1, ?_, hlt, by omega⟩
            refine z13 [] ?_ ?_ rfl rfl <;> simp [lessT, lessM, lessB, AV.less]
            all_goals first | done | rfl | trace_state
          · have he : i = k.days.length := by (have : ¬ i < k.days.length := by simpa using hb); omega
            subst he
            rw [List.take_length]
            repeat (first | refine nx (by first | (constructor; done) | exact .other rfl) ?_ | (refine z10 fun K hK => ?_; simp (maxSteps := 4000000) only [go_sem]; refine hK _ ?_; clear hK K))
            simp (maxSteps := 4000000) only [go_sem, retG]
end Go.Ab
namespace Go.Ab
open Go.RowKit Go.Proofs
set_option maxHeartbeats 16000000
set_option maxRecDepth 20000
attribute [local irreducible] WalkL Walk
theorem z1060 (k : Kitchen) (hs : KitSmall k) : Fn Try.prog 14 [.agg k.cells] (.agg k.cells) := (z987 k hs).deep rfl
theorem z1008 (M : List (List Int)) (hM : M.length < 2 ^ 30) (hMr : ∀ r ∈ M, r.length < 2 ^ 30) : Fn Try.prog 18 [.sl (listRows M)] (.sl (listRows M)) := by
  refine z22 21 Try.call18 Try.func18 rfl (by decide) fun J => ?_
  simp (maxSteps := 4000000) only [go_sem, St.start, Try.ntmps18, Try.results18]
  repeat (first | refine nx (by first | (constructor; done) | exact .other rfl) ?_ | (refine z10 fun K hK => ?_; simp (maxSteps := 4000000) only [go_sem]; refine hK _ ?_; clear hK K))
  refine z17 (fun (i : Nat) => [(4, .d (.i (i : Int))), (3, .own 19)]) (fun i => [(19, some (.arr 22 1 (listRows (M.take i))))]) (fun i => i ≤ M.length) (fun i => M.length - i) 0 ?_ (Nat.zero_le _) ?_
  · simp (maxSteps := 4000000) only [go_sem]
    refine z13 [19] ?_ ?_ rfl rfl <;> simp [lessT, lessM, lessB, AV.less, listRows]
  · intro i hi
    simp (maxSteps := 4000000) only [go_sem]
    repeat (first | refine nx (by first | (constructor; done) | exact .other rfl) ?_ | (refine z10 fun K hK => ?_; simp (maxSteps := 4000000) only [go_sem, z26]; refine hK _ ?_; clear hK K))
    refine z16 rfl (fun hb => ?_) (fun hb => ?_)
    · have hlt : i < M.length := by simpa using hb
      have hw : IntKind.i64.wrap ((i : Int) + 1) = ((i + 1 : Nat) : Int) := by rw [z20 (by omega)]; simp
      obtain ⟨x, hx⟩ : ∃ x, M[i]? = some x := ⟨_, List.getElem?_eq_getElem hlt⟩
      have g1 := z35 hx
      have hni : ¬ ((i : Int) < 0) := by omega
      have hxn := hMr x (List.mem_of_getElem? hx)
      have e3 : x.length ≤ 549755813888 := by omega
      have hh2 : headIs 1 (intRows x) = true := by cases x <;> rfl
      have hlt2 : (M.take i).length + 1 ≤ 549755813888 := by rw [List.length_take]; omega
      have htk : listRows (M.take i) ++ [[.sl (intRows x)]] = listRows (M.take (i + 1)) := by rw [List.take_add_one, hx]; simp [listRows]
      repeat (first | refine nx (by first | (constructor; done) | exact .other rfl) ?_ | (refine z10 fun K hK => ?_; simp (maxSteps := 4000000) only [go_sem, g1, hni, e3, hh2, hlt2, htk, z26, z37, List.nil_append, List.length_nil, Nat.zero_add, hw]; refine hK _ ?_; clear hK K))
      refine ⟨rfl, i + 1, ?_, hlt, by omega⟩
      refine z13 [] ?_ ?_ rfl rfl <;> simp [lessT, lessM, lessB, AV.less]
      all_goals first | done | rfl | trace_state
    · have he : i = M.length := by (have : ¬ i < M.length := by simpa using hb); omega
      subst he
      rw [List.take_length]
      repeat (first | refine nx (by first | (constructor; done) | exact .other rfl) ?_ | (refine z10 fun K hK => ?_; simp (maxSteps := 4000000) only [go_sem]; refine hK _ ?_; clear hK K))
      simp (maxSteps := 4000000) only [go_sem]
theorem z769 {k : Kitchen} {M C : List (List Int)} : (cookP k M C).1.length < 2 ^ 30 := by
  unfold cookP
  by_cases h : cookE k M C = 0
  · rw [if_pos h]
    unfold cookE at h
    by_cases h0 : openK k M = 0
    · rw [if_pos h0] at h
      obtain ⟨hg, hsh⟩ := z201 h0
      split at h
      · rename_i hc
        obtain ⟨_, _, hl, _, _⟩ := z768 hg hsh (z694 hg hc)
        have := hg.batches
        dsimp only
        omega
      · cases h
    · rw [if_neg h0] at h
      exact absurd h h0
  · rw [if_neg h]
    exact Nat.two_pow_pos 30
theorem z632 {k : Kitchen} (hs : KitSmall k) {no : Int} : (suitsP k no).1.length < 2 ^ 30 := by
  unfold suitsP
  have h1 := z122 k no k.dishes.length
  have h2 := hs.dishes
  split
  · split
    · dsimp only [suitL]
      omega
    · exact Nat.two_pow_pos 30
  · exact Nat.two_pow_pos 30
theorem z1063 (k : Kitchen) (M C : List (List Int)) (no : Int) (hs : KitSmall k) (hM : M.length < 2 ^ 30) (hMr : ∀ r ∈ M, r.length < 2 ^ 30) (hC : C.length < 2 ^ 30) (hCr : ∀ r ∈ C, r.length < 2 ^ 30) :
    Fn Try.prog 10 [.agg k.cells, .agg [.sl (listRows M), .sl (listRows C), .i no]] (.bool true) := by
  have h11 := z1062 k hs
  have h13 := z1061
  have h12a := z1009 M hM
  have h12b := z1009 C hC
  cases q1 : far7 k with
  | true =>
    rw [q1] at h11
    rw [Kitchen.cells] at h11 ⊢
    refine z22 139 Try.call10 Try.func10 rfl (by decide) fun J => ?_
    simp (maxSteps := 4000000) only [go_sem, St.start, Try.ntmps10, Try.results10]
    repeat (first | refine z12 rfl ?_ | refine z11 rfl ?_ | refine nx (by first | (constructor; done) | exact .other rfl) ?_ | (refine z10 fun K hK => ?_; simp (maxSteps := 4000000) only [go_sem]; (repeat (first | (refine ⟨_, .lent (hf := h11) (hd := rfl) (hr := rfl), ?_⟩; simp (maxSteps := 4000000) only [go_sem]) | (refine ⟨_, .lent (hf := h13) (hd := rfl) (hr := rfl), ?_⟩; simp (maxSteps := 4000000) only [go_sem]) | (refine ⟨_, .given (hf := h11) (hd := rfl) (ha := rfl), ?_⟩; simp (maxSteps := 4000000) only [go_sem]) | (refine ⟨_, .given (hf := h13) (hd := rfl) (ha := rfl), ?_⟩; simp (maxSteps := 4000000) only [go_sem]))); refine hK _ ?_; clear hK K))
    simp (maxSteps := 4000000) only [go_sem]
  | false =>
  rw [q1] at h11
  cases q2 : farRows M with
  | true =>
    rw [q2] at h12a
    rw [Kitchen.cells] at h11 ⊢
    refine z22 139 Try.call10 Try.func10 rfl (by decide) fun J => ?_
    simp (maxSteps := 4000000) only [go_sem, St.start, Try.ntmps10, Try.results10]
    repeat (first | refine z12 rfl ?_ | refine z11 rfl ?_ | refine nx (by first | (constructor; done) | exact .other rfl) ?_ | (refine z10 fun K hK => ?_; simp (maxSteps := 4000000) only [go_sem]; (repeat (first | (refine ⟨_, .lent (hf := h11) (hd := rfl) (hr := rfl), ?_⟩; simp (maxSteps := 4000000) only [go_sem]) | (refine ⟨_, .lent (hf := h12a) (hd := rfl) (hr := rfl), ?_⟩; simp (maxSteps := 4000000) only [go_sem]) | (refine ⟨_, .lent (hf := h13) (hd := rfl) (hr := rfl), ?_⟩; simp (maxSteps := 4000000) only [go_sem]) | (refine ⟨_, .given (hf := h11) (hd := rfl) (ha := rfl), ?_⟩; simp (maxSteps := 4000000) only [go_sem]) | (refine ⟨_, .given (hf := h12a) (hd := rfl) (ha := rfl), ?_⟩; simp (maxSteps := 4000000) only [go_sem]) | (refine ⟨_, .given (hf := h13) (hd := rfl) (ha := rfl), ?_⟩; simp (maxSteps := 4000000) only [go_sem]))); refine hK _ ?_; clear hK K))
    simp (maxSteps := 4000000) only [go_sem]
  | false =>
  rw [q2] at h12a
  cases q3 : farRows C with
  | true =>
    rw [q3] at h12b
    rw [Kitchen.cells] at h11 ⊢
    refine z22 139 Try.call10 Try.func10 rfl (by decide) fun J => ?_
    simp (maxSteps := 4000000) only [go_sem, St.start, Try.ntmps10, Try.results10]
    repeat (first | refine z12 rfl ?_ | refine z11 rfl ?_ | refine nx (by first | (constructor; done) | exact .other rfl) ?_ | (refine z10 fun K hK => ?_; simp (maxSteps := 4000000) only [go_sem]; (repeat (first | (refine ⟨_, .lent (hf := h11) (hd := rfl) (hr := rfl), ?_⟩; simp (maxSteps := 4000000) only [go_sem]) | (refine ⟨_, .lent (hf := h12a) (hd := rfl) (hr := rfl), ?_⟩; simp (maxSteps := 4000000) only [go_sem]) | (refine ⟨_, .lent (hf := h12b) (hd := rfl) (hr := rfl), ?_⟩; simp (maxSteps := 4000000) only [go_sem]) | (refine ⟨_, .lent (hf := h13) (hd := rfl) (hr := rfl), ?_⟩; simp (maxSteps := 4000000) only [go_sem]) | (refine ⟨_, .given (hf := h11) (hd := rfl) (ha := rfl), ?_⟩; simp (maxSteps := 4000000) only [go_sem]) | (refine ⟨_, .given (hf := h12a) (hd := rfl) (ha := rfl), ?_⟩; simp (maxSteps := 4000000) only [go_sem]) | (refine ⟨_, .given (hf := h12b) (hd := rfl) (ha := rfl), ?_⟩; simp (maxSteps := 4000000) only [go_sem]) | (refine ⟨_, .given (hf := h13) (hd := rfl) (ha := rfl), ?_⟩; simp (maxSteps := 4000000) only [go_sem]))); refine hK _ ?_; clear hK K))
    simp (maxSteps := 4000000) only [go_sem]
  | false =>
  rw [q3] at h12b
  have h14 := z1060 k hs
  have h18a := z1008 M hM hMr
  have h18b := z1008 C hC hCr
  have h35 := z971 k hs
  have h32 := z972 k hs
  have h33 := z1053 k hs no
  have h36 := z1052 k hs no
  have hss := z632 (no := no) hs
  have h25 := z1007 k M C hs hM hMr hC hCr
  have h37 := z1051 k M C hs hM hMr hC hCr
  have hcs := z769 (k := k) (M := M) (C := C)
  have h27 := z1054 k M hs hM hMr
  have h38 := z1050 k M hs hM hMr
  obtain ⟨e, he⟩ : ∃ e, e = kitE k := ⟨_, rfl⟩
  obtain ⟨⟨S, se⟩, hS⟩ : ∃ S, S = suitsP k no := ⟨_, rfl⟩
  obtain ⟨⟨L, w, dd, ce⟩, hL⟩ : ∃ S, S = cookP k M C := ⟨_, rfl⟩
  obtain ⟨a, b, c, hT⟩ : ∃ a b c : Int, (if openK k M = 0 then [DV.i (mostK k M), .i (leastK k M), .i 0] else [.i 0, .i 0, .i (openK k M)]) = [.i a, .i b, .i c] := by
    split
    · exact ⟨_, _, _, rfl⟩
    · exact ⟨_, _, _, rfl⟩
  rw [← he] at h35 h32
  rw [← hS] at h33 h36 hss
  rw [← hL] at h25 h37 hcs
  rw [hT] at h27 h38
  dsimp only at h33 h36 hss h25 h37 hcs
  have h21a := z948 S S hss
  have h21b := z948 L L hcs
  have d1 : decide (S = S) = true := decide_eq_true rfl
  have d2 : decide (L = L) = true := decide_eq_true rfl
  rw [d1] at h21a
  rw [d2] at h21b
  have n1 : (e != e) = false := by simp
  have n2 : (se != se) = false := by simp
  have n3 : (w != w) = false := by simp
  have n4 : ((dd : Int) != (dd : Int)) = false := by simp
  have n5 : (ce != ce) = false := by simp
  have n6 : (a == a) = true := by simp
  have n7 : (b == b) = true := by simp
  have n8 : (c == c) = true := by simp
  rw [Kitchen.cells] at h11 h14 h35 h32 h33 h36 h25 h37 h27 h38 ⊢
  refine z22 139 Try.call10 Try.func10 rfl (by decide) fun J => ?_
  simp (maxSteps := 4000000) only [go_sem, St.start, Try.ntmps10, Try.results10]
  repeat (first | refine z12 rfl ?_ | refine z11 rfl ?_ | refine nx (by first | (constructor; done) | exact .other rfl) ?_ | (refine z10 fun K hK => ?_; simp (maxSteps := 4000000) only [go_sem]; (repeat (first | (refine ⟨_, .lent (hf := h11) (hd := rfl) (hr := rfl), ?_⟩; simp (maxSteps := 4000000) only [go_sem]) | (refine ⟨_, .lent (hf := h12a) (hd := rfl) (hr := rfl), ?_⟩; simp (maxSteps := 4000000) only [go_sem]) | (refine ⟨_, .lent (hf := h12b) (hd := rfl) (hr := rfl), ?_⟩; simp (maxSteps := 4000000) only [go_sem]) | (refine ⟨_, .given (hf := h11) (hd := rfl) (ha := rfl), ?_⟩; simp (maxSteps := 4000000) only [go_sem]) | (refine ⟨_, .given (hf := h12a) (hd := rfl) (ha := rfl), ?_⟩; simp (maxSteps := 4000000) only [go_sem]) | (refine ⟨_, .given (hf := h12b) (hd := rfl) (ha := rfl), ?_⟩; simp (maxSteps := 4000000) only [go_sem]))); refine hK _ ?_; clear hK K))
  refine z21 (by kernel_rfl) (by kernel_rfl) fun K hK => ?_
  simp (maxSteps := 4000000) only [go_sem]
  refine ⟨_, .fn (hf := h14) (hd := rfl) (hr := .inr rfl), ?_⟩
  simp (maxSteps := 4000000) only [go_sem]
  refine ⟨_, .fn (hf := h18a) (hd := rfl) (hr := .inr rfl), ?_⟩
  simp (maxSteps := 4000000) only [go_sem]
  refine ⟨_, .fn (hf := h18b) (hd := rfl) (hr := .inr rfl), ?_⟩
  simp (maxSteps := 4000000) only [go_sem]
  refine ⟨by kernel_rfl, hK _ ?_⟩
  clear hK K
  repeat (first | refine z24 ?_ | refine z23 ?_ | refine z18 ?_ | refine z19 ?_ | refine z15 ?_ | refine z14 ?_)
  refine z21 (by kernel_rfl) (by kernel_rfl) fun K hK => ?_
  simp (maxSteps := 4000000) only [go_sem]
  refine ⟨_, .fn (hf := h35) (hd := rfl) (hr := .inl rfl), ?_⟩
  simp (maxSteps := 4000000) only [go_sem]
  refine ⟨_, .fn (hf := h32) (hd := rfl) (hr := .inl rfl), ?_⟩
  simp (maxSteps := 4000000) only [go_sem, n1]
  refine ⟨by kernel_rfl, hK _ ?_⟩
  clear hK K
  repeat (first | refine z12 rfl ?_ | refine z11 rfl ?_ | refine nx (by first | (constructor; done) | exact .other rfl) ?_ | (refine z10 fun K hK => ?_; simp (maxSteps := 4000000) only [go_sem, n1, n2, n3, n4, n5, n6, n7, n8]; (repeat (first | (refine ⟨_, .lent (hf := h33) (hd := rfl) (hr := rfl), ?_⟩; simp (maxSteps := 4000000) only [go_sem, n1, n2, n3, n4, n5, n6, n7, n8]) | (refine ⟨_, .lent (hf := h36) (hd := rfl) (hr := rfl), ?_⟩; simp (maxSteps := 4000000) only [go_sem, n1, n2, n3, n4, n5, n6, n7, n8]) | (refine ⟨_, .lent (hf := h21a) (hd := rfl) (hr := rfl), ?_⟩; simp (maxSteps := 4000000) only [go_sem, n1, n2, n3, n4, n5, n6, n7, n8]) | (refine ⟨_, .lent (hf := h25) (hd := rfl) (hr := rfl), ?_⟩; simp (maxSteps := 4000000) only [go_sem, n1, n2, n3, n4, n5, n6, n7, n8]) | (refine ⟨_, .lent (hf := h37) (hd := rfl) (hr := rfl), ?_⟩; simp (maxSteps := 4000000) only [go_sem, n1, n2, n3, n4, n5, n6, n7, n8]) | (refine ⟨_, .lent (hf := h21b) (hd := rfl) (hr := rfl), ?_⟩; simp (maxSteps := 4000000) only [go_sem, n1, n2, n3, n4, n5, n6, n7, n8]) | (refine ⟨_, .lent (hf := h27) (hd := rfl) (hr := rfl), ?_⟩; simp (maxSteps := 4000000) only [go_sem, n1, n2, n3, n4, n5, n6, n7, n8]) | (refine ⟨_, .lent (hf := h38) (hd := rfl) (hr := rfl), ?_⟩; simp (maxSteps := 4000000) only [go_sem, n1, n2, n3, n4, n5, n6, n7, n8]) | (refine ⟨_, .lent (hf := h13) (hd := rfl) (hr := rfl), ?_⟩; simp (maxSteps := 4000000) only [go_sem, n1, n2, n3, n4, n5, n6, n7, n8]) | (refine ⟨_, .given (hf := h33) (hd := rfl) (ha := rfl), ?_⟩; simp (maxSteps := 4000000) only [go_sem, n1, n2, n3, n4, n5, n6, n7, n8]) | (refine ⟨_, .given (hf := h36) (hd := rfl) (ha := rfl), ?_⟩; simp (maxSteps := 4000000) only [go_sem, n1, n2, n3, n4, n5, n6, n7, n8]) | (refine ⟨_, .given (hf := h21a) (hd := rfl) (ha := rfl), ?_⟩; simp (maxSteps := 4000000) only [go_sem, n1, n2, n3, n4, n5, n6, n7, n8]) | (refine ⟨_, .given (hf := h25) (hd := rfl) (ha := rfl), ?_⟩; simp (maxSteps := 4000000) only [go_sem, n1, n2, n3, n4, n5, n6, n7, n8]) | (refine ⟨_, .given (hf := h37) (hd := rfl) (ha := rfl), ?_⟩; simp (maxSteps := 4000000) only [go_sem, n1, n2, n3, n4, n5, n6, n7, n8]) | (refine ⟨_, .given (hf := h21b) (hd := rfl) (ha := rfl), ?_⟩; simp (maxSteps := 4000000) only [go_sem, n1, n2, n3, n4, n5, n6, n7, n8]) | (refine ⟨_, .given (hf := h27) (hd := rfl) (ha := rfl), ?_⟩; simp (maxSteps := 4000000) only [go_sem, n1, n2, n3, n4, n5, n6, n7, n8]) | (refine ⟨_, .given (hf := h38) (hd := rfl) (ha := rfl), ?_⟩; simp (maxSteps := 4000000) only [go_sem, n1, n2, n3, n4, n5, n6, n7, n8]) | (refine ⟨_, .given (hf := h13) (hd := rfl) (ha := rfl), ?_⟩; simp (maxSteps := 4000000) only [go_sem, n1, n2, n3, n4, n5, n6, n7, n8]))); refine hK _ ?_; clear hK K))
  simp (maxSteps := 4000000) only [go_sem]
end Go.Ab
