/- A walk engine over abstract states, and the contracts of the functions that the statement reaches: what one more statement needs. -/
import Derived.Test.YtfkbbaagifpjpaaDoorWe
set_option linter.unusedVariables false
set_option linter.unusedSimpArgs false
set_option linter.unnecessarySimpa false
namespace Go.Ab
open Go.RowKit Go.Proofs
theorem tab_tsz_0 : tsz Tryd.prog 0 = (some 1) := by kernel_rfl
theorem tab_tbytes_0 : tbytes Tryd.prog 0 = (some 0) := by kernel_rfl
theorem tab_tagg_0 : tagg Tryd.prog 0 = (some false) := by kernel_rfl
theorem tab_tsz_1 : tsz Tryd.prog 1 = (some 1) := by kernel_rfl
theorem tab_tbytes_1 : tbytes Tryd.prog 1 = (some 8) := by kernel_rfl
theorem tab_tagg_1 : tagg Tryd.prog 1 = (some false) := by kernel_rfl
theorem tab_tsz_2 : tsz Tryd.prog 2 = (some 1) := by kernel_rfl
theorem tab_tbytes_2 : tbytes Tryd.prog 2 = (some 8) := by kernel_rfl
theorem tab_tagg_2 : tagg Tryd.prog 2 = (some false) := by kernel_rfl
theorem tab_tint_2 : tint Tryd.prog 2 = (some IntKind.i64) := by kernel_rfl
theorem tab_tsz_3 : tsz Tryd.prog 3 = (some 1) := by kernel_rfl
theorem tab_tbytes_3 : tbytes Tryd.prog 3 = (some 8) := by kernel_rfl
theorem tab_tagg_3 : tagg Tryd.prog 3 = (some false) := by kernel_rfl
theorem tab_tint_3 : tint Tryd.prog 3 = (some IntKind.i64) := by kernel_rfl
theorem tab_tsz_4 : tsz Tryd.prog 4 = (some 1) := by kernel_rfl
theorem tab_tbytes_4 : tbytes Tryd.prog 4 = (some 1) := by kernel_rfl
theorem tab_tagg_4 : tagg Tryd.prog 4 = (some false) := by kernel_rfl
theorem tab_tsz_5 : tsz Tryd.prog 5 = (some 1) := by kernel_rfl
theorem tab_tbytes_5 : tbytes Tryd.prog 5 = (some 1) := by kernel_rfl
theorem tab_tagg_5 : tagg Tryd.prog 5 = (some false) := by kernel_rfl
theorem tab_tint_5 : tint Tryd.prog 5 = (some IntKind.u8) := by kernel_rfl
theorem tab_tsz_22 : tsz Tryd.prog 22 = (some 1) := by kernel_rfl
theorem tab_tbytes_22 : tbytes Tryd.prog 22 = (some 24) := by kernel_rfl
theorem tab_tagg_22 : tagg Tryd.prog 22 = (some false) := by kernel_rfl
theorem tab_tslice_22 : tslice Tryd.prog 22 = (some 52) := by kernel_rfl
theorem tab_tsz_24 : tsz Tryd.prog 24 = (some 2) := by kernel_rfl
theorem tab_tbytes_24 : tbytes Tryd.prog 24 = (some 32) := by kernel_rfl
theorem tab_tagg_24 : tagg Tryd.prog 24 = (some true) := by kernel_rfl
theorem tab_tfields_24 : tfields Tryd.prog 24 = (some [(0, (1, false)), (1, (1, false))]) := by kernel_rfl
theorem tab_tsz_26 : tsz Tryd.prog 26 = (some 2) := by kernel_rfl
theorem tab_tbytes_26 : tbytes Tryd.prog 26 = (some 16) := by kernel_rfl
theorem tab_tagg_26 : tagg Tryd.prog 26 = (some true) := by kernel_rfl
theorem tab_tfields_26 : tfields Tryd.prog 26 = (some [(0, (1, false)), (1, (1, false))]) := by kernel_rfl
theorem tab_teq_26 : teq Tryd.prog 26 = (some [(0, false), (1, false)]) := by kernel_rfl
theorem tab_tsz_29 : tsz Tryd.prog 29 = (some 1) := by kernel_rfl
theorem tab_tbytes_29 : tbytes Tryd.prog 29 = (some 24) := by kernel_rfl
theorem tab_tagg_29 : tagg Tryd.prog 29 = (some false) := by kernel_rfl
theorem tab_tslice_29 : tslice Tryd.prog 29 = (some 44) := by kernel_rfl
theorem tab_tsz_31 : tsz Tryd.prog 31 = (some 9) := by kernel_rfl
theorem tab_tbytes_31 : tbytes Tryd.prog 31 = (some 88) := by kernel_rfl
theorem tab_tagg_31 : tagg Tryd.prog 31 = (some true) := by kernel_rfl
theorem tab_tfields_31 : tfields Tryd.prog 31 = (some [(0, (4, true)), (4, (1, false)), (5, (1, false)), (6, (1, false)), (7, (1, false)), (8, (1, false))]) := by kernel_rfl
theorem tab_tsz_36 : tsz Tryd.prog 36 = (some 1) := by kernel_rfl
theorem tab_tbytes_36 : tbytes Tryd.prog 36 = (some 24) := by kernel_rfl
theorem tab_tagg_36 : tagg Tryd.prog 36 = (some false) := by kernel_rfl
theorem tab_tslice_36 : tslice Tryd.prog 36 = (some 3) := by kernel_rfl
theorem tab_tsz_37 : tsz Tryd.prog 37 = (some 1) := by kernel_rfl
theorem tab_tbytes_37 : tbytes Tryd.prog 37 = (some 8) := by kernel_rfl
theorem tab_tagg_37 : tagg Tryd.prog 37 = (some false) := by kernel_rfl
theorem tab_tint_37 : tint Tryd.prog 37 = (some IntKind.i64) := by kernel_rfl
theorem tab_tsz_44 : tsz Tryd.prog 44 = (some 3) := by kernel_rfl
theorem tab_tbytes_44 : tbytes Tryd.prog 44 = (some 24) := by kernel_rfl
theorem tab_tagg_44 : tagg Tryd.prog 44 = (some true) := by kernel_rfl
theorem tab_tfields_44 : tfields Tryd.prog 44 = (some [(0, (1, false)), (1, (1, false)), (2, (1, false))]) := by kernel_rfl
theorem tab_teq_44 : teq Tryd.prog 44 = (some [(0, false), (1, false), (2, true)]) := by kernel_rfl
theorem tab_tsz_46 : tsz Tryd.prog 46 = (some 6) := by kernel_rfl
theorem tab_tbytes_46 : tbytes Tryd.prog 46 = (some 48) := by kernel_rfl
theorem tab_tagg_46 : tagg Tryd.prog 46 = (some true) := by kernel_rfl
theorem tab_tfields_46 : tfields Tryd.prog 46 = (some [(0, (3, true)), (3, (1, false)), (4, (1, false)), (5, (1, false))]) := by kernel_rfl
theorem tab_teq_46 : teq Tryd.prog 46 = (some [(0, false), (1, false), (2, true), (3, false), (4, false), (5, false)]) := by kernel_rfl
theorem tab_tsz_50 : tsz Tryd.prog 50 = (some 1) := by kernel_rfl
theorem tab_tbytes_50 : tbytes Tryd.prog 50 = (some 24) := by kernel_rfl
theorem tab_tagg_50 : tagg Tryd.prog 50 = (some false) := by kernel_rfl
theorem tab_tslice_50 : tslice Tryd.prog 50 = (some 26) := by kernel_rfl
theorem tab_tsz_52 : tsz Tryd.prog 52 = (some 8) := by kernel_rfl
theorem tab_tbytes_52 : tbytes Tryd.prog 52 = (some 80) := by kernel_rfl
theorem tab_tagg_52 : tagg Tryd.prog 52 = (some true) := by kernel_rfl
theorem tab_tfields_52 : tfields Tryd.prog 52 = (some [(0, (1, false)), (1, (1, false)), (2, (1, false)), (3, (2, true)), (5, (2, true)), (7, (1, false))]) := by kernel_rfl
theorem tab_zero_1 : tzero Tryd.prog 1 = some Value.nilFunc := by kernel_rfl
theorem tab_zero_2 : tzero Tryd.prog 2 = some (Value.int IntKind.i64 0) := by kernel_rfl
theorem tab_zero_3 : tzero Tryd.prog 3 = some (Value.int IntKind.i64 0) := by kernel_rfl
theorem tab_zero_4 : tzero Tryd.prog 4 = some (Value.bool false) := by kernel_rfl
theorem tab_zero_5 : tzero Tryd.prog 5 = some (Value.int IntKind.u8 0) := by kernel_rfl
theorem tab_zero_22 : tzero Tryd.prog 22 = some (Value.slice none 0 0) := by kernel_rfl
theorem tab_zero_24 : tzero Tryd.prog 24 = some (Value.agg #[Value.int IntKind.i64 0, Value.slice none 0 0]) := by kernel_rfl
theorem tab_zero_26 : tzero Tryd.prog 26 = some (Value.agg #[Value.int IntKind.i64 0, Value.int IntKind.i64 0]) := by kernel_rfl
theorem tab_zero_29 : tzero Tryd.prog 29 = some (Value.slice none 0 0) := by kernel_rfl
theorem tab_zero_31 : tzero Tryd.prog 31 = some (Value.agg #[Value.int IntKind.i64 0, Value.int IntKind.i64 0, Value.int IntKind.i64 0, Value.int IntKind.i64 0, Value.int IntKind.i64 0, Value.int IntKind.i64 0, Value.int IntKind.i64 0, Value.int IntKind.i64 0, Value.slice none 0 0]) := by kernel_rfl
theorem tab_zero_36 : tzero Tryd.prog 36 = some (Value.slice none 0 0) := by kernel_rfl
theorem tab_zero_37 : tzero Tryd.prog 37 = some (Value.int IntKind.i64 0) := by kernel_rfl
theorem tab_zero_44 : tzero Tryd.prog 44 = some (Value.agg #[Value.int IntKind.i64 0, Value.int IntKind.i64 0, Value.bool false]) := by kernel_rfl
theorem tab_zero_46 : tzero Tryd.prog 46 = some (Value.agg #[Value.int IntKind.i64 0, Value.int IntKind.i64 0, Value.bool false, Value.int IntKind.i64 0, Value.int IntKind.i64 0, Value.int IntKind.i64 0]) := by kernel_rfl
theorem tab_zero_50 : tzero Tryd.prog 50 = some (Value.slice none 0 0) := by kernel_rfl
theorem tab_zero_52 : tzero Tryd.prog 52 = some (Value.agg #[Value.int IntKind.i64 0, Value.int IntKind.i64 0, Value.int IntKind.i64 0, Value.int IntKind.i64 0, Value.int IntKind.i64 0, Value.int IntKind.i64 0, Value.int IntKind.i64 0, Value.slice none 0 0]) := by kernel_rfl
attribute [go_sem] tab_tsz_0 tab_tbytes_0 tab_tagg_0 tab_tsz_1 tab_tbytes_1 tab_tagg_1 tab_tsz_2 tab_tbytes_2 tab_tagg_2 tab_tint_2 tab_tsz_3 tab_tbytes_3 tab_tagg_3 tab_tint_3 tab_tsz_4 tab_tbytes_4 tab_tagg_4 tab_tsz_5 tab_tbytes_5 tab_tagg_5 tab_tint_5 tab_tsz_22 tab_tbytes_22 tab_tagg_22 tab_tslice_22 tab_tsz_24 tab_tbytes_24 tab_tagg_24 tab_tfields_24 tab_tsz_26 tab_tbytes_26 tab_tagg_26 tab_tfields_26 tab_teq_26 tab_tsz_29 tab_tbytes_29 tab_tagg_29 tab_tslice_29 tab_tsz_31 tab_tbytes_31 tab_tagg_31 tab_tfields_31 tab_tsz_36 tab_tbytes_36 tab_tagg_36 tab_tslice_36 tab_tsz_37 tab_tbytes_37 tab_tagg_37 tab_tint_37 tab_tsz_44 tab_tbytes_44 tab_tagg_44 tab_tfields_44 tab_teq_44 tab_tsz_46 tab_tbytes_46 tab_tagg_46 tab_tfields_46 tab_teq_46 tab_tsz_50 tab_tbytes_50 tab_tagg_50 tab_tslice_50 tab_tsz_52 tab_tbytes_52 tab_tagg_52 tab_tfields_52 tab_zero_1 tab_zero_2 tab_zero_3 tab_zero_4 tab_zero_5 tab_zero_22 tab_zero_24 tab_zero_26 tab_zero_29 tab_zero_31 tab_zero_36 tab_zero_37 tab_zero_44 tab_zero_46 tab_zero_50 tab_zero_52
end Go.Ab
namespace Go.Ab
open Go.RowKit Go.Proofs
set_option maxHeartbeats 4000000
set_option maxRecDepth 20000
attribute [local irreducible] WalkL Walk
theorem spanRows_head (l : List Span) : headIs 2 (l.map Span.row) = true := by cases l <;> rfl
/-- .. in memory of its own. -/
theorem zf19m (n : Net) (hs : n.Small) : FnG Tryd.prog 19 [] [] [.d (.agg n.cells)] (.agg [.d (.i n.places), .own 0]) [.arr 52 8 (n.paths.map Path.row)] := by
  have hpl := hs.paths
  refine z45 33 Tryd.call19 Tryd.func19 rfl (by decide) [30] [] (by simp only [List.length_cons, List.length_nil]; decide) (by kernel_rfl) fun J => ?_
  simp (maxSteps := 4000000) only [go_sem, St.startG, Tryd.ntmps19, Tryd.results19, List.map_cons, List.map_nil, List.range_succ,  Net.cells]
  repeat (first | refine z25 ?_ | refine z36 ?_ | refine z34 ?_ | (refine z3 fun K hK => ?_; simp (maxSteps := 4000000) only [go_sem]; refine hK _ ?_; clear hK K) | refine z7 ?_ | refine z206 ?_ | refine z98 ?_ | refine z61 ?_ | refine z117 rfl ?_ | refine z107 ?_ | refine z55 ?_ | refine z124 ?_ | refine z100 ?_ | refine z4 ?_)
  refine z13 (fun (i : Nat) => [(4, .d (.i i))]) (fun i => [(3, some (.box [.d (.i n.places), .own 30])), (30, some (.arr 52 8 ((n.paths.take i).map Path.row)))]) (fun i => i ≤ n.paths.length) (fun i => n.paths.length - i) 0 ?_ (Nat.zero_le _) ?_
  · simp (maxSteps := 4000000) only [go_sem]
    refine z69 [30] ?_ ?_ rfl rfl <;> simp [lessT, lessM, lessB, AV.less]
  · intro i hi
    simp (maxSteps := 4000000) only [go_sem]
    repeat (first | refine z25 ?_ | refine z36 ?_ | refine z34 ?_ | (refine z3 fun K hK => ?_; simp (maxSteps := 4000000) only [go_sem]; refine hK _ ?_; clear hK K) | refine z7 ?_ | refine z206 ?_ | refine z98 ?_ | refine z61 ?_ | refine z117 rfl ?_ | refine z107 ?_ | refine z55 ?_ | refine z124 ?_ | refine z100 ?_ | refine z4 ?_)
    refine z5 rfl (fun hb => ?_) (fun hb => ?_)
    · have hlt : i < n.paths.length := by simpa using hb
      have hw : IntKind.i64.wrap ((i : Int) + 1) = ((i + 1 : Nat) : Int) := by rw [z10 (by omega)]; simp
      obtain ⟨x, hx⟩ : ∃ x, n.paths[i]? = some x := ⟨_, List.getElem?_eq_getElem hlt⟩
      have hxo := hs.opens x (List.mem_of_getElem? hx)
      have h1 : x.opens.length ≤ 549755813888 := by omega
      have h2 : min i n.paths.length + 1 ≤ 549755813888 := by omega
      have h3 : (n.paths.take (i + 1)).map Path.row = (n.paths.take i).map Path.row ++ [x.row] := by rw [List.take_add_one, hx]; simp
      repeat (first | refine z25 ?_ | refine z36 ?_ | refine z34 ?_ | (refine z3 fun K hK => ?_; simp (maxSteps := 4000000) only [go_sem, hx, List.getElem?_map, Path.row, h1, h2, spanRows_head, List.length_take, hw]; refine hK _ ?_; clear hK K) | refine z7 ?_ | refine z206 ?_ | refine z98 ?_ | refine z61 ?_ | refine z117 rfl ?_ | refine z107 ?_ | refine z55 ?_ | refine z124 ?_ | refine z100 ?_ | refine z4 ?_)
      refine ⟨rfl, i + 1, ?_, hlt, by omega⟩
      rw [h3]
      refine z69 [] ?_ ?_ rfl rfl <;> simp [lessT, lessM, lessB, AV.less]
      first | done | rfl
    · have he : i = n.paths.length := by (have : ¬ i < n.paths.length := by simpa using hb); omega
      subst he
      repeat (first | refine z25 ?_ | refine z36 ?_ | refine z34 ?_ | (refine z3 fun K hK => ?_; simp (maxSteps := 4000000) only [go_sem]; refine hK _ ?_; clear hK K) | refine z7 ?_ | refine z206 ?_ | refine z98 ?_ | refine z61 ?_ | refine z117 rfl ?_ | refine z107 ?_ | refine z55 ?_ | refine z124 ?_ | refine z100 ?_ | refine z4 ?_)
      simp (maxSteps := 4000000) only [go_sem, List.take_length, retG]
end Go.Ab
namespace Go.Ab
open Go.RowKit Go.Proofs
set_option maxHeartbeats 2000000
theorem ends_cases {n : Net} {x : Missed} {A : List Arv} {e : EndT} (h : e ∈ endsL n x A) : (e.pa < 0 ∧ memA A e.pl e.mi ∧ x.now ∈ staysL x e.pl e.mi x.now) ∨
    ∃ (k : Nat) (y : Path), e.pa = k ∧ n.paths[k]? = some y ∧ y.grade ≤ x.party.grade ∧ y.frm = e.pl ∧ memA A e.pl e.mi ∧ e.lv ∈ staysL x e.pl e.mi (wr (e.mi + x.rest)) ∧ e.lv ≠ x.now ∧ seenF x.clues ≤ e.lv := by
  obtain ⟨s, hs, he⟩ := List.mem_flatMap.1 h
  rw [endOf8] at he
  rcases List.mem_append.1 he with he | he
  · obtain ⟨w, hw, he⟩ := List.mem_filterMap.1 he
    rw [endIn] at he
    split at he
    · rename_i hn
      cases he
      subst hn
      exact .inl ⟨by show (-1 : Int) < 0; decide, ⟨s, hs, rfl, rfl⟩, hw⟩
    · cases he
  · obtain ⟨lv, hlv, he⟩ := List.mem_flatMap.1 he
    rw [endLv] at he
    split at he
    · simp at he
    · rename_i hc
      obtain ⟨k, hk, he⟩ := List.mem_filterMap.1 he
      rw [endOn] at he
      split at he
      · rename_i y hy
        split at he
        · rename_i hg
          cases he
          exact .inr ⟨k, y, rfl, hy, hg.1, hg.2, ⟨s, hs, rfl, rfl⟩, hlv, fun hh => hc (.inl hh), by show seenF x.clues ≤ lv; omega⟩
        · cases he
      · cases he
/-- What is counted has been counted for some end. -/
theorem tally_back : ∀ (E : List EndT) (a : List Int × List Int), (∀ j : Nat, (E.foldl tally a).1.getD j 0 ≠ a.1.getD j 0 → ∃ e ∈ E, e.pa < 0 ∧ e.pl.toNat = j) ∧ (∀ j : Nat, (E.foldl tally a).2.getD j 0 ≠ a.2.getD j 0 → ∃ e ∈ E, ¬ e.pa < 0 ∧ e.pa.toNat = j)
  | [], a => ⟨fun j h => absurd rfl h, fun j h => absurd rfl h⟩
  | e :: E, a => by
    obtain ⟨h1, h2⟩ := tally_back E (tally a e)
    have key : ∀ (l : List Int) (i : Int) (j : Nat), i.toNat ≠ j → (bump1 l i).getD j 0 = l.getD j 0 := fun l i j hij => by
      rw [bump1, List.getD_eq_getElem?_getD, List.getElem?_set_ne hij, ← List.getD_eq_getElem?_getD]
    refine ⟨fun j hj => ?_, fun j hj => ?_⟩
    · by_cases hc : ((e :: E).foldl tally a).1.getD j 0 = (tally a e).1.getD j 0
      · rw [List.foldl_cons] at hc hj
        rw [hc, tally] at hj
        split at hj
        · rename_i hp
          by_cases hij : e.pl.toNat = j
          · exact ⟨e, by simp, hp, hij⟩
          · exact absurd (key _ _ _ hij) hj
        · exact absurd rfl hj
      · obtain ⟨e', he', h⟩ := h1 j hc
        exact ⟨e', by simp [he'], h⟩
    · by_cases hc : ((e :: E).foldl tally a).2.getD j 0 = (tally a e).2.getD j 0
      · rw [List.foldl_cons] at hc hj
        rw [hc, tally] at hj
        split at hj
        · exact absurd rfl hj
        · rename_i hp
          by_cases hij : e.pa.toNat = j
          · exact ⟨e, by simp, hp, hij⟩
          · exact absurd (key _ _ _ hij) hj
      · obtain ⟨e', he', h⟩ := h2 j hc
        exact ⟨e', by simp [he'], h⟩
theorem posL_mem {l : List Int} {p : Int} (h : (posL l).any (fun y => y == p) = true) : 0 ≤ p ∧ p.toNat < l.length ∧ 0 < l.getD p.toNat 0 := by
  obtain ⟨q, hq, he⟩ := List.any_eq_true.1 h
  rw [beq_iff_eq] at he
  subst he
  rw [posL] at hq
  obtain ⟨i, hi, rfl⟩ := List.mem_map.1 hq
  obtain ⟨h2, h3⟩ := List.mem_filter.1 hi
  have h2 := List.mem_range.1 h2
  have h3 := of_decide_eq_true h3
  refine ⟨by omega, by omega, ?_⟩
  rwa [getI] at h3
theorem whereP_iff {n : Net} {x : Missed} (hx : Hunted n x) {p : Int} : (whereP n x).any (fun y => y == p) = true ↔ CanIn n x p := by
  refine ⟨fun h => ?_, z550 hx⟩
  obtain ⟨h1, h2, h3⟩ := posL_mem h
  rw [tallyE] at h3
  obtain ⟨e, he, hp, hj⟩ := (tally_back (endsL n x (huntedA n x)) (List.replicate n.places.toNat 0, List.replicate n.paths.length 0)).1 p.toNat (by simp only [z893]; omega)
  have hr := z465 (z200 hx) he
  have : e.pl = p := by omega
  subst this
  rcases ends_cases he with ⟨_, a1, a2⟩ | ⟨k, _, a1, _⟩
  · exact ⟨e.mi, (z451 hx).1 a1, a2⟩
  · omega
theorem whereW_iff {n : Net} {x : Missed} (hx : Hunted n x) {k : Int} : (whereW n x).any (fun y => y == k) = true ↔ CanOn n x k := by
  refine ⟨fun h => ?_, z549 hx⟩
  obtain ⟨h1, h2, h3⟩ := posL_mem h
  rw [tallyE] at h3
  obtain ⟨e, he, hp, hj⟩ := (tally_back (endsL n x (huntedA n x)) (List.replicate n.places.toNat 0, List.replicate n.paths.length 0)).2 k.toNat (by simp only [z893]; omega)
  rcases ends_cases he with ⟨a1, _⟩ | ⟨j, y, a1, a2, a3, a4, a5, a6, a7, a8⟩
  · exact absurd a1 hp
  · have hk : k = (j : Int) := by omega
    rw [← a4] at a5 a6
    exact ⟨j, y, e.mi, e.lv, hk, a2, a3, (z451 hx).1 a5, a6, a7, a8⟩
end Go.Ab
namespace Go.Ab
open Go.RowKit Go.Proofs
set_option maxHeartbeats 2000000
theorem reached_range {n : Net} {x : Missed} (hx : Hunted n x) {p t : Int} (h : Reached n x p t) : x.start ≤ t ∧ t ≤ x.now ∧ 0 ≤ p := by
  induction h with
  | start _ => exact ⟨Int.le_refl _, hx.start.2, hx.place.1⟩
  | step _ hlv harr ih =>
    obtain ⟨k, y, b, hy, hf, hg, hto, _, _, hw, _⟩ := harr
    obtain ⟨w1, w2, _⟩ := z909.1 hw
    obtain ⟨l1, _⟩ := z430.1 hlv
    have := (hx.net.path y (List.mem_of_getElem? hy)).to
    exact ⟨by omega, w2, by omega⟩
theorem loose_stays {n m : Net} {x z : Missed} (hx : Hunted n x) (hz : Hunted m z) (h : Looser n x m z) {p u lv : Int} (hu : x.start ≤ u ∧ u ≤ x.now) (hlv : lv ∈ staysL x p u (wr (u + x.rest))) : lv ∈ staysL z p u (wr (u + z.rest)) := by
  obtain ⟨l1, l2, l3, l4⟩ := z430.1 hlv
  have h1 := hx.start
  have h2 := hx.now
  have h3 := hx.rest
  have h4 := hz.rest
  have h5 := h.rest
  have e1 : wr (u + x.rest) = u + x.rest := z10 (by omega)
  have e2 : wr (u + z.rest) = u + z.rest := z10 (by omega)
  rw [e1] at l2
  exact z430.2 ⟨l1, by rw [e2]; omega, by rw [h.now]; exact l3, fun v g1 g2 => h.at0 _ _ (l4 v g1 g2)⟩
theorem loose_reached {n m : Net} {x z : Missed} (hx : Hunted n x) (hz : Hunted m z) (h : Looser n x m z) {p t : Int} (hr : Reached n x p t) : Reached m z p t := by
  induction hr with
  | start hat =>
    have := Reached.start (n := m) (x := z) (by rw [h.place, h.start]; exact h.at0 _ _ hat)
    rwa [h.place, h.start] at this
  | @step p u lv to t hr hlv harr ih =>
    obtain ⟨r1, r2, r3⟩ := reached_range hx hr
    refine .step ih (loose_stays hx hz h ⟨r1, r2⟩ hlv) ?_
    obtain ⟨k, y, b, hy, hf, hg, hto, a1, a2, hw, hat⟩ := harr
    obtain ⟨y', hy', hf', hto', hg', s1, s2⟩ := h.path k y hy hg
    obtain ⟨o1, o2, o3⟩ := z836 (hx.net.path y (List.mem_of_getElem? hy)) hx.party
    obtain ⟨q1, q2, q3⟩ := z836 (hz.net.path y' (List.mem_of_getElem? hy')) hz.party
    unfold okTime at o1 o2 q1 q2
    obtain ⟨l1, l2, l3, l4⟩ := z430.1 hlv
    obtain ⟨w1, w2, w3, w4⟩ := z909.1 hw
    have h1 := hx.start
    have h2 := hx.now
    have e1 : wr (lv + (spanW y x.party).lo) = lv + (spanW y x.party).lo := z10 (by omega)
    have e2 : wr (lv + (spanW y x.party).hi) = lv + (spanW y x.party).hi := z10 (by omega)
    have e3 : wr (lv + (spanW y' z.party).lo) = lv + (spanW y' z.party).lo := z10 (by omega)
    have e4 : wr (lv + (spanW y' z.party).hi) = lv + (spanW y' z.party).hi := z10 (by omega)
    rw [e1] at a1
    rw [e2] at a2
    refine ⟨k, y', onB8 z.clues t, hy', by rw [hf', hf], hg', by rw [hto', hto], by rw [e3]; omega, by rw [e4]; omega, z909.2 ⟨w1, by rw [h.now]; exact w2, rfl, fun v g1 g2 => h.on _ (w4 v g1 g2)⟩, h.at0 _ _ hat⟩
theorem loose_in {n m : Net} {x z : Missed} (hx : Hunted n x) (hz : Hunted m z) (h : Looser n x m z) {p : Int} (hc : CanIn n x p) : CanIn m z p := by
  obtain ⟨u, hr, hs⟩ := hc
  obtain ⟨l1, l2, l3, l4⟩ := z430.1 hs
  exact ⟨u, loose_reached hx hz h hr, z430.2 ⟨by rw [h.now]; exact l1, Int.le_refl _, Int.le_refl _, fun v g1 g2 => h.at0 _ _ (l4 v g1 (by rw [← h.now]; exact g2))⟩⟩
theorem loose_on {n m : Net} {x z : Missed} (hx : Hunted n x) (hz : Hunted m z) (h : Looser n x m z) {k : Int} (hc : CanOn n x k) : CanOn m z k := by
  obtain ⟨j, y, u, lv, rfl, hy, hg, hr, hs, hne, hle⟩ := hc
  obtain ⟨y', hy', hf', hto', hg', _⟩ := h.path j y hy hg
  obtain ⟨r1, r2, r3⟩ := reached_range hx hr
  have hsn := h.seen
  exact ⟨j, y', u, lv, rfl, hy', hg', by rw [hf']; exact loose_reached hx hz h hr, by rw [hf']; exact loose_stays hx hz h ⟨r1, r2⟩ hs, by rw [h.now]; exact hne, by omega⟩
theorem where_lists {n : Net} {x : Missed} (ho : openX n x = 0) : (whereC n x).1 = whereP n x ∧ (whereC n x).2.1 = whereW n x ∧ ((whereC n x).2.2 = 0 ∨ (whereC n x).2.2 = 3) := by
  rw [whereC, if_neg (fun h => h ho)]
  split
  · rename_i h; rw [h.1, h.2]; exact ⟨rfl, rfl, .inr rfl⟩
  · exact ⟨rfl, rfl, .inl rfl⟩
theorem loose_within {n m : Net} {x z : Missed} (hl : x.clues.length < 2 ^ 30) (hl' : z.clues.length < 2 ^ 30) (ho : openX n x = 0) (ho' : openX m z = 0) (h : Looser n x m z) : withinQ (whereC n x).1 (whereC n x).2.1 (whereC m z).1 (whereC m z).2.1 = true := by
  obtain ⟨e1, e2, _⟩ := where_lists ho
  obtain ⟨e3, e4, _⟩ := where_lists ho'
  have hx := z195 hl ho
  have hz := z195 hl' ho'
  rw [e1, e2, e3, e4, withinQ, Bool.and_eq_true, List.all_eq_true, List.all_eq_true]
  exact ⟨fun v hv => (whereP_iff hz).2 (loose_in hx hz h ((whereP_iff hx).1 (List.any_eq_true.2 ⟨v, hv, by simp⟩))),
    fun v hv => (whereW_iff hz).2 (loose_on hx hz h ((whereW_iff hx).1 (List.any_eq_true.2 ⟨v, hv, by simp⟩)))⟩
theorem more_looser (n : Net) (x : Missed) (c : Clue) : Looser n (moreX x c) n x := by
  refine ⟨rfl, rfl, rfl, Int.le_refl _, fun p u h => ?_, fun u h => ?_, ?_, fun k y hy hg => ⟨y, hy, rfl, rfl, hg, Int.le_refl _, Int.le_refl _⟩⟩
  · simp only [moreX, atB, List.any_append, Bool.not_or, Bool.and_eq_true] at h ⊢
    exact h.1
  · simp only [moreX, onB8, List.any_append, Bool.not_or, Bool.and_eq_true] at h ⊢
    exact h.1
  · show seenF x.clues ≤ seenF (x.clues ++ [c])
    rw [seenF, seenF, List.foldl_append, List.foldl_cons, List.foldl_nil]
    split
    · exact Int.le_max_left _ _
    · exact Int.le_refl _
theorem good_same8 {n m : Net} {x : Path} (h : x.Good n) (e : m.places = n.places) : x.Good m := ⟨by rw [e]; exact h.frm, by rw [e]; exact h.to, h.ne, h.grade, h.time, h.snow, h.len, h.opens⟩
theorem longP_good {n : Net} {p : Path} {t : Int} (h : p.Good n) (ht : 0 ≤ t ∧ t ≤ 60) : (longP p t).Good n := by
  obtain ⟨t1, t2, t3⟩ := h.time
  have e : wr (p.time.hi + t) = p.time.hi + t := z10 (by omega)
  refine ⟨h.frm, h.to, h.ne, h.grade, ?_, h.snow, by simp [longP], fun s hs => by simp [longP] at hs⟩
  simp only [longP, e]
  omega
theorem longN_places (n : Net) (y : MoreT) : (longN n y).places = n.places := by
  rw [longN]; split <;> rfl
theorem longN_get {n : Net} {y : MoreT} {k : Nat} {p : Path} (h : n.paths[k]? = some p) : (longN n y).paths[k]? = some p ∨ (longN n y).paths[k]? = some (longP p y.time) := by
  rw [longN]
  split
  · by_cases hk : y.path.toNat = k
    · subst hk; right; simp [h]
    · left; simp [List.getElem?_modify, hk, h]
  · exact .inl h
theorem longN_len (n : Net) (y : MoreT) : (longN n y).paths.length = n.paths.length := by
  rw [longN]; split
  · simp
  · rfl
theorem longN_good {n : Net} {y : MoreT} (hn : n.Good) (ht : 0 ≤ y.time ∧ y.time ≤ 60) : (longN n y).Good := by
  refine ⟨by rw [longN_places]; exact hn.places, by rw [longN_len]; exact hn.paths, fun q hq => ?_⟩
  obtain ⟨k, hk⟩ := List.getElem?_of_mem hq
  have hkl : k < n.paths.length := by rw [← longN_len n y]; exact (List.getElem?_eq_some_iff.1 hk).1
  have hp := List.getElem?_eq_getElem hkl
  have hg := hn.path _ (List.getElem_mem hkl)
  rcases longN_get (y := y) hp with h | h
  · rw [hk] at h; cases h
    exact good_same8 hg (longN_places n y)
  · rw [hk] at h; cases h
    exact good_same8 (longP_good hg ht) (longN_places n y)
theorem long_hi {n : Net} {p : Path} {q : Party} {t : Int} (hp : p.Good n) (hq : q.Good) (ht : 0 ≤ t ∧ t ≤ 60) : (spanW p q).hi ≤ (spanW (longP p t) q).hi ∧ (spanW (longP p t) q).lo = (spanW p q).lo := by
  refine ⟨?_, rfl⟩
  obtain ⟨t1, t2, t3⟩ := hp.time
  obtain ⟨s1, s2, s3⟩ := hp.snow
  obtain ⟨p1, p2, p3⟩ := hq.pace
  have hl := hq.load
  have e : wr (p.time.hi + t) = p.time.hi + t := z10 (by omega)
  obtain ⟨d, hd⟩ : ∃ d, d = min 600 (wr (p.time.hi + t)) := ⟨_, rfl⟩
  have hd1 : p.time.hi ≤ d ∧ d ≤ 600 := by rw [hd, e]; omega
  obtain ⟨a1, _⟩ := z1018 (t := p.time.hi) (pace := q.pace.hi) (snow := p.snow.hi) (load := q.load) (by omega) (by omega) (by omega) hq.load
  obtain ⟨b1, _⟩ := z1018 (t := d) (pace := q.pace.hi) (snow := p.snow.hi) (load := q.load) (by omega) (by omega) (by omega) hq.load
  show timeW _ _ _ _ ≤ timeW (min 600 (wr (p.time.hi + t))) q.pace.hi p.snow.hi q.load
  rw [← hd, a1, b1]
  have h1 : p.time.hi * q.pace.hi ≤ d * q.pace.hi := Int.mul_le_mul_of_nonneg_right hd1.1 (by omega)
  have h2 : p.time.hi * q.pace.hi * (100 + 5 * p.snow.hi + q.load) ≤ d * q.pace.hi * (100 + 5 * p.snow.hi + q.load) := Int.mul_le_mul_of_nonneg_right h1 (by omega)
  omega
theorem openX_iff {n : Net} {x : Missed} : openX n x = 0 ↔ checkPartyF n x.party = 0 ∧ badHunt n x = false ∧ ¬ (x.clues.length : Int) > 12 ∧ x.clues.any (wrongC n x) = false := by
  rw [openX]
  constructor
  · intro h
    split at h
    · rename_i h1; exact absurd h h1
    · rename_i h1
      split at h
      · cases h
      · rename_i h2
        split at h
        · cases h
        · rename_i h3
          rw [Bool.or_eq_true, not_or, decide_eq_true_eq, Bool.not_eq_true] at h3
          exact ⟨Classical.not_not.1 h1, by simpa using h2, h3.1, h3.2⟩
  · rintro ⟨h1, h2, h3, h4⟩
    rw [if_neg (fun h => h h1), h2, if_neg (by decide), h4, Bool.or_false, decide_eq_false h3, if_neg (by decide)]
theorem long_open {n : Net} {x : Missed} {y : MoreT} (hl : x.clues.length < 2 ^ 30) (ho : openX n x = 0) (hr : 0 ≤ y.rest ∧ y.rest ≤ 10) (hr' : x.rest ≤ 10) (ht : 0 ≤ y.time ∧ y.time ≤ 60) : openX (longN n y) (longX x y) = 0 ∧ Looser n x (longN n y) (longX x y) := by
  have hx := z195 hl ho
  have hre := hx.rest
  have e : wr (x.rest + y.rest) = x.rest + y.rest := z10 (by omega)
  have hmin : x.rest ≤ min 10 (wr (x.rest + y.rest)) ∧ min 10 (wr (x.rest + y.rest)) ≤ 10 := by rw [e]; omega
  obtain ⟨h1, h2, h3, h4⟩ := openX_iff.1 ho
  refine ⟨openX_iff.2 ⟨z119.2 ⟨longN_good hx.net ht, hx.party⟩, ?_, h3, ?_⟩, ?_⟩
  · simp only [badHunt, Bool.or_eq_false_iff, Bool.not_eq_false', z14] at h2 ⊢
    rw [longN_places]
    simp only [longX]
    exact ⟨h2.1, h2.2.1, by omega, h2.2.2.2⟩
  · rw [List.any_eq_false] at h4 ⊢
    intro c hc
    have := h4 c hc
    simp only [wrongC, fullS, longN_places, longX] at this ⊢
    exact this
  · refine ⟨rfl, rfl, rfl, hmin.1, fun _ _ h => h, fun _ h => h, Int.le_refl _, fun k p hp hg => ?_⟩
    obtain ⟨g1, g2⟩ := long_hi (t := y.time) (hx.net.path p (List.mem_of_getElem? hp)) hx.party ht
    rcases longN_get (y := y) hp with h | h
    · exact ⟨p, h, rfl, rfl, hg, Int.le_refl _, Int.le_refl _⟩
    · exact ⟨_, h, rfl, rfl, hg, Int.le_of_eq g2, g1⟩
end Go.Ab
namespace Go.Ab
open Go.RowKit Go.Proofs
set_option maxHeartbeats 8000000
set_option maxRecDepth 20000
attribute [local irreducible] WalkL Walk
theorem all_take_succ {α : Type} {q : α → Bool} {l : List α} {i : Nat} {x : α} (h : l[i]? = some x) (h0 : (l.take i).all q = true) (hx : q x = true) : (l.take (i + 1)).all q = true := by
  rw [List.take_add_one, h, List.all_append, h0]; simp [hx]
theorem all_of_get {α : Type} {q : α → Bool} {l : List α} {i : Nat} {x : α} (h : l[i]? = some x) (hx : q x = false) : l.all q = false := by
  rw [List.all_eq_false]
  exact ⟨x, List.mem_of_getElem? h, by simp [hx]⟩
theorem zf18 (a b c d : List Int) (ha : a.length < 2 ^ 30) (hb : b.length < 2 ^ 30) (hc : c.length < 2 ^ 30) (hd : d.length < 2 ^ 30) :
    Fn Tryd.prog 18 [.sl (intRows a), .sl (intRows b), .sl (intRows c), .sl (intRows d)] (.bool (withinQ a b c d)) := by
  have hra := z17 a
  have hrb := z17 b
  have h16c : ∀ v, Fn Tryd.prog 16 [.sl (intRows c), .i v] (.bool (hasI c v)) := fun v => zf16 c v hc
  have h16d : ∀ v, Fn Tryd.prog 16 [.sl (intRows d), .i v] (.bool (hasI d v)) := fun v => zf16 d v hd
  refine z9 37 Tryd.call18 Tryd.func18 rfl (by decide) fun J => ?_
  simp (maxSteps := 4000000) only [go_sem, St.start, Tryd.ntmps18, Tryd.results18]
  repeat (first | refine z25 ?_ | refine z36 ?_ | refine z34 ?_ | (refine z3 fun K hK => ?_; simp (maxSteps := 4000000) only [go_sem]; refine hK _ ?_; clear hK K) | refine z7 ?_ | refine z206 ?_ | refine z98 ?_ | refine z61 ?_ | refine z117 rfl ?_ | refine z107 ?_ | refine z55 ?_ | refine z124 ?_ | refine z100 ?_ | refine z4 ?_)
  refine z13 (fun (i : Nat) => [(9, .d (.i i))]) (fun _ => []) (fun i => i ≤ a.length ∧ (a.take i).all (hasI c) = true) (fun i => a.length - i) 0 ?_ ⟨Nat.zero_le _, rfl⟩ ?_
  · simp (maxSteps := 4000000) only [go_sem]
    refine z69 [] ?_ ?_ rfl rfl <;> simp [lessT, lessM, lessB, AV.less]
  · intro i ⟨hi, hall⟩
    simp (maxSteps := 4000000) only [go_sem]
    repeat (first | refine z25 ?_ | refine z36 ?_ | refine z34 ?_ | (refine z3 fun K hK => ?_; simp (maxSteps := 4000000) only [go_sem, hra]; refine hK _ ?_; clear hK K) | refine z7 ?_ | refine z206 ?_ | refine z98 ?_ | refine z61 ?_ | refine z117 rfl ?_ | refine z107 ?_ | refine z55 ?_ | refine z124 ?_ | refine z100 ?_ | refine z4 ?_)
    refine z5 rfl (fun hb => ?_) (fun hb => ?_)
    · have hlt : i < a.length := by simpa using hb
      have hw : IntKind.i64.wrap ((i : Int) + 1) = ((i + 1 : Nat) : Int) := by rw [z10 (by omega)]; simp
      obtain ⟨y, hy⟩ : ∃ y, a[i]? = some y := ⟨_, List.getElem?_eq_getElem hlt⟩
      have g1 := z251 hy
      have hcy := h16c y
      cases hq : hasI c y
      · rw [hq] at hcy
        have hf : withinQ a b c d = false := by rw [withinQ, all_of_get hy hq, Bool.false_and]
        repeat (first | refine z25 ?_ | refine z36 ?_ | refine z34 ?_ | (refine z3 fun K hK => ?_; simp (maxSteps := 4000000) only [go_sem, g1]; (repeat (first | (refine ⟨_, .lent (hf := hcy) (hd := rfl) (hr := rfl), ?_⟩; simp (maxSteps := 4000000) only [go_sem, g1]) | (refine ⟨_, .given (hf := hcy) (hd := rfl) (ha := rfl), ?_⟩; simp (maxSteps := 4000000) only [go_sem, g1]))); refine hK _ ?_; clear hK K) | refine z7 ?_ | refine z206 ?_ | refine z98 ?_ | refine z61 ?_ | refine z117 rfl ?_ | refine z107 ?_ | refine z55 ?_ | refine z124 ?_ | refine z100 ?_ | refine z4 ?_)
        refine z11 rfl ?_
        repeat (first | refine z25 ?_ | refine z36 ?_ | refine z34 ?_ | (refine z3 fun K hK => ?_; simp (maxSteps := 4000000) only [go_sem]; refine hK _ ?_; clear hK K) | refine z7 ?_ | refine z206 ?_ | refine z98 ?_ | refine z61 ?_ | refine z117 rfl ?_ | refine z107 ?_ | refine z55 ?_ | refine z124 ?_ | refine z100 ?_ | refine z4 ?_)
        rw [hf]
        simp (maxSteps := 4000000) only [go_sem]
      · rw [hq] at hcy
        repeat (first | refine z25 ?_ | refine z36 ?_ | refine z34 ?_ | (refine z3 fun K hK => ?_; simp (maxSteps := 4000000) only [go_sem, g1]; (repeat (first | (refine ⟨_, .lent (hf := hcy) (hd := rfl) (hr := rfl), ?_⟩; simp (maxSteps := 4000000) only [go_sem, g1]) | (refine ⟨_, .given (hf := hcy) (hd := rfl) (ha := rfl), ?_⟩; simp (maxSteps := 4000000) only [go_sem, g1]))); refine hK _ ?_; clear hK K) | refine z7 ?_ | refine z206 ?_ | refine z98 ?_ | refine z61 ?_ | refine z117 rfl ?_ | refine z107 ?_ | refine z55 ?_ | refine z124 ?_ | refine z100 ?_ | refine z4 ?_)
        refine z6 rfl ?_
        repeat (first | refine z25 ?_ | refine z36 ?_ | refine z34 ?_ | (refine z3 fun K hK => ?_; simp (maxSteps := 4000000) only [go_sem, hw]; refine hK _ ?_; clear hK K) | refine z7 ?_ | refine z206 ?_ | refine z98 ?_ | refine z61 ?_ | refine z117 rfl ?_ | refine z107 ?_ | refine z55 ?_ | refine z124 ?_ | refine z100 ?_ | refine z4 ?_)
        refine ⟨rfl, i + 1, ?_, ⟨hlt, all_take_succ hy hall hq⟩, by omega⟩
        refine z69 [] ?_ ?_ rfl rfl <;> simp [lessT, lessM, lessB, AV.less]
    · have he : i = a.length := by (have : ¬ i < a.length := by simpa using hb); omega
      subst he
      rw [List.take_length] at hall
      repeat (first | refine z25 ?_ | refine z36 ?_ | refine z34 ?_ | (refine z3 fun K hK => ?_; simp (maxSteps := 4000000) only [go_sem]; refine hK _ ?_; clear hK K) | refine z7 ?_ | refine z206 ?_ | refine z98 ?_ | refine z61 ?_ | refine z117 rfl ?_ | refine z107 ?_ | refine z55 ?_ | refine z124 ?_ | refine z100 ?_ | refine z4 ?_)
      refine z13 (fun (i : Nat) => [(10, .d (.i i))]) (fun _ => []) (fun i => i ≤ b.length ∧ (b.take i).all (hasI d) = true) (fun i => b.length - i) 0 ?_ ⟨Nat.zero_le _, rfl⟩ ?_
      · simp (maxSteps := 4000000) only [go_sem]
        refine z69 [] ?_ ?_ rfl rfl <;> simp [lessT, lessM, lessB, AV.less]
      · intro i ⟨hi, hall2⟩
        simp (maxSteps := 4000000) only [go_sem]
        repeat (first | refine z25 ?_ | refine z36 ?_ | refine z34 ?_ | (refine z3 fun K hK => ?_; simp (maxSteps := 4000000) only [go_sem, hrb]; refine hK _ ?_; clear hK K) | refine z7 ?_ | refine z206 ?_ | refine z98 ?_ | refine z61 ?_ | refine z117 rfl ?_ | refine z107 ?_ | refine z55 ?_ | refine z124 ?_ | refine z100 ?_ | refine z4 ?_)
        refine z5 rfl (fun hb => ?_) (fun hb => ?_)
        · have hlt : i < b.length := by simpa using hb
          have hw : IntKind.i64.wrap ((i : Int) + 1) = ((i + 1 : Nat) : Int) := by rw [z10 (by omega)]; simp
          obtain ⟨y, hy⟩ : ∃ y, b[i]? = some y := ⟨_, List.getElem?_eq_getElem hlt⟩
          have g1 := z251 hy
          have hdy := h16d y
          cases hq : hasI d y
          · rw [hq] at hdy
            have hf : withinQ a b c d = false := by rw [withinQ, all_of_get hy hq, Bool.and_false]
            repeat (first | refine z25 ?_ | refine z36 ?_ | refine z34 ?_ | (refine z3 fun K hK => ?_; simp (maxSteps := 4000000) only [go_sem, g1]; (repeat (first | (refine ⟨_, .lent (hf := hdy) (hd := rfl) (hr := rfl), ?_⟩; simp (maxSteps := 4000000) only [go_sem, g1]) | (refine ⟨_, .given (hf := hdy) (hd := rfl) (ha := rfl), ?_⟩; simp (maxSteps := 4000000) only [go_sem, g1]))); refine hK _ ?_; clear hK K) | refine z7 ?_ | refine z206 ?_ | refine z98 ?_ | refine z61 ?_ | refine z117 rfl ?_ | refine z107 ?_ | refine z55 ?_ | refine z124 ?_ | refine z100 ?_ | refine z4 ?_)
            refine z11 rfl ?_
            repeat (first | refine z25 ?_ | refine z36 ?_ | refine z34 ?_ | (refine z3 fun K hK => ?_; simp (maxSteps := 4000000) only [go_sem]; refine hK _ ?_; clear hK K) | refine z7 ?_ | refine z206 ?_ | refine z98 ?_ | refine z61 ?_ | refine z117 rfl ?_ | refine z107 ?_ | refine z55 ?_ | refine z124 ?_ | refine z100 ?_ | refine z4 ?_)
            rw [hf]
            simp (maxSteps := 4000000) only [go_sem]
          · rw [hq] at hdy
            repeat (first | refine z25 ?_ | refine z36 ?_ | refine z34 ?_ | (refine z3 fun K hK => ?_; simp (maxSteps := 4000000) only [go_sem, g1]; (repeat (first | (refine ⟨_, .lent (hf := hdy) (hd := rfl) (hr := rfl), ?_⟩; simp (maxSteps := 4000000) only [go_sem, g1]) | (refine ⟨_, .given (hf := hdy) (hd := rfl) (ha := rfl), ?_⟩; simp (maxSteps := 4000000) only [go_sem, g1]))); refine hK _ ?_; clear hK K) | refine z7 ?_ | refine z206 ?_ | refine z98 ?_ | refine z61 ?_ | refine z117 rfl ?_ | refine z107 ?_ | refine z55 ?_ | refine z124 ?_ | refine z100 ?_ | refine z4 ?_)
            refine z6 rfl ?_
            repeat (first | refine z25 ?_ | refine z36 ?_ | refine z34 ?_ | (refine z3 fun K hK => ?_; simp (maxSteps := 4000000) only [go_sem, hw]; refine hK _ ?_; clear hK K) | refine z7 ?_ | refine z206 ?_ | refine z98 ?_ | refine z61 ?_ | refine z117 rfl ?_ | refine z107 ?_ | refine z55 ?_ | refine z124 ?_ | refine z100 ?_ | refine z4 ?_)
            refine ⟨rfl, i + 1, ?_, ⟨hlt, all_take_succ hy hall2 hq⟩, by omega⟩
            refine z69 [] ?_ ?_ rfl rfl <;> simp [lessT, lessM, lessB, AV.less]
        · have he : i = b.length := by (have : ¬ i < b.length := by simpa using hb); omega
          subst he
          rw [List.take_length] at hall2
          have ht : withinQ a b c d = true := by rw [withinQ, hall, hall2]; rfl
          repeat (first | refine z25 ?_ | refine z36 ?_ | refine z34 ?_ | (refine z3 fun K hK => ?_; simp (maxSteps := 4000000) only [go_sem]; refine hK _ ?_; clear hK K) | refine z7 ?_ | refine z206 ?_ | refine z98 ?_ | refine z61 ?_ | refine z117 rfl ?_ | refine z107 ?_ | refine z55 ?_ | refine z124 ?_ | refine z100 ?_ | refine z4 ?_)
          rw [ht]
          simp (maxSteps := 4000000) only [go_sem]
theorem clueRows_head (l : List Clue) : headIs 3 (l.map Clue.row) = true := by cases l <;> rfl
/-- A copy of a missed party: its clues are own. -/
theorem zf17m (x : Missed) (hx : x.clues.length < 2 ^ 30) : FnG Tryd.prog 17 [] [] (List.map AV.d [.agg x.row])
    (.agg [.d (.i x.party.grade), .d (.i x.party.load), .d (.i x.party.pace.lo), .d (.i x.party.pace.hi), .d (.i x.place), .d (.i x.start), .d (.i x.now), .d (.i x.rest), .own 0]) [.arr 44 3 (x.clues.map Clue.row)] := by
  have hl : (x.clues.map Clue.row).length = x.clues.length := by simp
  have h1 : x.clues.length ≤ 549755813888 := by omega
  have h2 : 0 + x.clues.length ≤ 549755813888 := by omega
  have h3 := clueRows_head x.clues
  refine z45 9 Tryd.call17 Tryd.func17 rfl (by decide) [3] [] (by simp only [List.length_cons, List.length_nil]; decide) (by kernel_rfl) fun J => ?_
  simp (maxSteps := 4000000) only [go_sem, St.startG, Tryd.ntmps17, Tryd.results17, List.map_cons, List.map_nil, List.range_succ,  Missed.row]
  repeat (first | refine z25 ?_ | refine z36 ?_ | refine z34 ?_ | (refine z3 fun K hK => ?_; simp (maxSteps := 4000000) only [go_sem, hl, h1, h2, h3, List.nil_append, List.length_nil]; refine hK _ ?_; clear hK K) | refine z7 ?_ | refine z206 ?_ | refine z98 ?_ | refine z61 ?_ | refine z117 rfl ?_ | refine z107 ?_ | refine z55 ?_ | refine z124 ?_ | refine z100 ?_ | refine z4 ?_)
  simp (maxSteps := 4000000) only [go_sem, retG]
/-- A copy of a net: its paths are own. -/
theorem zf19o (n : Net) (hs : n.Small) : FnG Tryd.prog 19 [] [] (List.map AV.d [.agg n.cells]) (.agg [.d (.i n.places), .own 0]) [.arr 52 8 (n.paths.map Path.row)] := zf19m n hs
end Go.Ab
namespace Go.Ab
open Go.RowKit Go.Proofs
set_option maxHeartbeats 16000000
set_option maxRecDepth 20000
attribute [local irreducible] WalkL Walk
def MoreT.row (y : MoreT) : List DV := [.i y.clue.minute, .i y.clue.places, .bool y.clue.seen, .i y.rest, .i y.path, .i y.time]
def badMore (n : Net) (x : Missed) (y : MoreT) : Bool := !validB n x || (decide (y.rest < 0) || (decide (y.rest > 10) || (decide (y.time < 0) || decide (y.time > 60))))
theorem far_rest {n : Net} {x : Missed} (h : farX n x = false) (ho : openX n x = 0) : x.rest ≤ 10 := by
  rw [farX, ho] at h
  simp only [Bool.or_eq_false_iff, Bool.and_eq_false_iff, decide_eq_false_iff_not] at h
  obtain ⟨_, _, h⟩ := h
  rcases h with h | h
  · cases h
  · omega
theorem zf4 (n : Net) (x : Missed) (y : MoreT) (hs : n.Small) (hcl : x.clues.length < 2 ^ 30) : Fn Tryd.prog 4 [.agg n.cells, .agg x.row, .agg y.row] (.bool true) := by
  have h12 := zf12 n x hs (by omega)
  have h14 := zf14
  have h15 := zf15 n x hs (by omega)
  have h17 := zf17m x (by omega)
  have h19 := zf19o n hs
  change Fn Tryd.prog 12 _ (.bool (validB n x)) at h12
  obtain ⟨hw1, hw2⟩ := z1005 (x := x) hs
  have hrl : (n.paths.map Path.row).length = n.paths.length := by simp
  have hpl := hs.paths
  have hcl1 : x.clues.length ≤ 549755813887 := by omega
  rw [whereD] at h15
  rw [Net.cells] at *
  rw [Missed.row] at h12 h15 h17 ⊢
  obtain ⟨bad, hbad⟩ : ∃ b, b = badMore n x y := ⟨_, rfl⟩
  refine z9 160 Tryd.call4 Tryd.func4 rfl (by decide) fun J => ?_
  simp (maxSteps := 4000000) only [go_sem, St.start, Tryd.ntmps4, Tryd.results4, MoreT.row]
  repeat (first | refine z25 ?_ | refine z36 ?_ | refine z34 ?_ | (refine z3 fun K hK => ?_; simp (maxSteps := 4000000) only [go_sem]; refine hK _ ?_; clear hK K) | refine z7 ?_ | refine z206 ?_ | refine z98 ?_ | refine z61 ?_ | refine z117 rfl ?_ | refine z107 ?_ | refine z55 ?_ | refine z124 ?_ | refine z100 ?_ | refine z4 ?_)
  refine z18 [(42, .d (.bool (badMore n x y)))] [] ?_ ?_
  · refine z3 fun K hK => ?_
    simp (maxSteps := 4000000) only [go_sem]
    refine ⟨_, .lent (hf := h12) (hd := rfl) (hr := rfl), ?_⟩
    simp (maxSteps := 4000000) only [go_sem]
    by_cases ho0 : (!validB n x) = true
    · simp (maxSteps := 4000000) only [go_sem, ho0]
      refine hK _ ?_
      clear hK K
      refine z7 ?_
      refine z4 ?_
      refine ⟨rfl, ?_⟩
      rw [show (badMore n x y) = (true) from by simp [badMore, ho0]]
      simp (maxSteps := 4000000) only [go_sem]
      refine z69 [] ?_ ?_ rfl rfl <;> simp [lessT, lessM, lessB, AV.less]
    · simp (maxSteps := 4000000) only [go_sem, ho0]
      by_cases ho1 : (decide (y.rest < 0)) = true
      · simp (maxSteps := 4000000) only [go_sem, ho0, ho1]
        refine hK _ ?_
        clear hK K
        refine z7 ?_
        refine z4 ?_
        refine ⟨rfl, ?_⟩
        rw [show (badMore n x y) = (true) from by simp [badMore, ho0, ho1]]
        simp (maxSteps := 4000000) only [go_sem]
        refine z69 [] ?_ ?_ rfl rfl <;> simp [lessT, lessM, lessB, AV.less]
      · simp (maxSteps := 4000000) only [go_sem, ho0, ho1]
        by_cases ho2 : (decide (y.rest > 10)) = true
        · simp (maxSteps := 4000000) only [go_sem, ho0, ho1, ho2]
          refine hK _ ?_
          clear hK K
          refine z7 ?_
          refine z4 ?_
          refine ⟨rfl, ?_⟩
          rw [show (badMore n x y) = (true) from by simp [badMore, ho0, ho1, ho2]]
          simp (maxSteps := 4000000) only [go_sem]
          refine z69 [] ?_ ?_ rfl rfl <;> simp [lessT, lessM, lessB, AV.less]
        · simp (maxSteps := 4000000) only [go_sem, ho0, ho1, ho2]
          by_cases ho3 : (decide (y.time < 0)) = true
          · simp (maxSteps := 4000000) only [go_sem, ho0, ho1, ho2, ho3]
            refine hK _ ?_
            clear hK K
            refine z7 ?_
            refine z4 ?_
            refine ⟨rfl, ?_⟩
            rw [show (badMore n x y) = (true) from by simp [badMore, ho0, ho1, ho2, ho3]]
            simp (maxSteps := 4000000) only [go_sem]
            refine z69 [] ?_ ?_ rfl rfl <;> simp [lessT, lessM, lessB, AV.less]
          · simp (maxSteps := 4000000) only [go_sem, ho0, ho1, ho2, ho3]
            refine hK _ ?_
            clear hK K
            refine z7 ?_
            refine z4 ?_
            refine ⟨rfl, ?_⟩
            rw [show (badMore n x y) = (decide (y.time > 60)) from by simp [badMore, ho0, ho1, ho2, ho3]]
            simp (maxSteps := 4000000) only [go_sem]
            refine z69 [] ?_ ?_ rfl rfl <;> simp [lessT, lessM, lessB, AV.less]
  simp (maxSteps := 4000000) only [go_sem]
  by_cases hb : badMore n x y = true
  · refine z5 (b := true) (by rw [← hb]; rfl) (fun _ => ?_) (fun hc => by cases hc)
    repeat (first | refine z25 ?_ | refine z36 ?_ | refine z34 ?_ | (refine z3 fun K hK => ?_; simp (maxSteps := 4000000) only [go_sem]; (repeat (first | (refine ⟨_, .lent (hf := h14) (hd := rfl) (hr := rfl), ?_⟩; simp (maxSteps := 4000000) only [go_sem]) | (refine ⟨_, .given (hf := h14) (hd := rfl) (ha := rfl), ?_⟩; simp (maxSteps := 4000000) only [go_sem]))); refine hK _ ?_; clear hK K) | refine z7 ?_ | refine z206 ?_ | refine z98 ?_ | refine z61 ?_ | refine z117 rfl ?_ | refine z107 ?_ | refine z55 ?_ | refine z124 ?_ | refine z100 ?_ | refine z4 ?_)
    simp (maxSteps := 4000000) only [go_sem]
  · have hb : badMore n x y = false := by simpa using hb
    refine z5 (b := false) (by rw [← hb]; rfl) (fun hc => by cases hc) (fun _ => ?_)
    have hb2 := hb
    simp only [badMore, validB, Bool.or_eq_false_iff, Bool.not_eq_false', Bool.and_eq_true, beq_iff_eq, decide_eq_false_iff_not, Bool.not_eq_true'] at hb2
    obtain ⟨⟨hf, ho⟩, r1, r2, t1, t2⟩ := hb2
    have hx := z195 (by omega) ho
    have hc30 : x.clues.length ≤ 30 := by
      simp only [farX, Bool.or_eq_false_iff, decide_eq_false_iff_not] at hf
      omega
    have hml : (moreX x y.clue).clues.length < 2 ^ 30 := by simp only [moreX, List.length_append, List.length_singleton]; omega
    have h12m := zf12 n (moreX x y.clue) hs hml
    have h15m := zf15 n (moreX x y.clue) hs hml
    have hmr : (moreX x y.clue).clues.map Clue.row = x.clues.map Clue.row ++ [[.i y.clue.minute, .i y.clue.places, .bool y.clue.seen]] := by simp [moreX, Clue.row]
    change Fn Tryd.prog 12 _ (.bool (validB n (moreX x y.clue))) at h12m
    obtain ⟨hw3, hw4⟩ := z1005 (x := moreX x y.clue) hs
    have h18m := zf18 (whereC n (moreX x y.clue)).1 (whereC n (moreX x y.clue)).2.1 (whereC n x).1 (whereC n x).2.1 hw3 hw4 hw1 hw2
    rw [whereD] at h15m
    rw [Net.cells] at h12m h15m
    rw [Missed.row, hmr] at h12m h15m
    obtain ⟨ho', hlo⟩ := long_open (n := n) (x := x) (y := y) (by omega) ho ⟨by omega, by omega⟩ (far_rest hf ho) ⟨by omega, by omega⟩
    obtain ⟨_, _, he⟩ := where_lists ho
    obtain ⟨_, _, he'⟩ := where_lists ho'
    have hmore : validB n (moreX x y.clue) = true → ((whereC n (moreX x y.clue)).2.2 = 0 ∨ (whereC n (moreX x y.clue)).2.2 = 3) ∧ withinQ (whereC n (moreX x y.clue)).1 (whereC n (moreX x y.clue)).2.1 (whereC n x).1 (whereC n x).2.1 = true := fun hv => by
      simp only [validB, Bool.and_eq_true, beq_iff_eq] at hv
      exact ⟨(where_lists hv.2).2.2, loose_within hml (by omega) hv.2 ho (more_looser n x y.clue)⟩
    have hwl := loose_within (n := n) (x := x) (m := longN n y) (z := longX x y) (by omega) (by show x.clues.length < 2 ^ 30; omega) ho ho' hlo
    have hgl := longN_good (y := y) hx.net ⟨by omega, by omega⟩
    have hsl : (longN n y).Small := ⟨by have := hgl.paths; omega, fun z hz => by have := (hgl.path z hz).len; omega⟩
    have h15l := zf15 (longN n y) (longX x y) hsl (by show x.clues.length < 2 ^ 30; omega)
    obtain ⟨hw5, hw6⟩ := z1005 (n := longN n y) (x := longX x y) hsl
    have h18l := zf18 (whereC n x).1 (whereC n x).2.1 (whereC (longN n y) (longX x y)).1 (whereC (longN n y) (longX x y)).2.1 hw1 hw2 hw5 hw6
    rw [hwl] at h18l
    rw [whereD, Net.cells, longN_places, Missed.row] at h15l
    change Fn Tryd.prog 15 [.agg [.i n.places, .sl ((longN n y).paths.map Path.row)], .agg [.i x.party.grade, .i x.party.load, .i x.party.pace.lo, .i x.party.pace.hi, .i x.place, .i x.start, .i x.now, .i (min 10 (IntKind.i64.wrap (x.rest + y.rest))), .sl (x.clues.map Clue.row)]] _ at h15l
    obtain ⟨W, hW⟩ : ∃ W, W = whereC n x := ⟨_, rfl⟩
    obtain ⟨W2, hW2⟩ : ∃ W, W = whereC n (moreX x y.clue) := ⟨_, rfl⟩
    obtain ⟨W3, hW3⟩ : ∃ W, W = whereC (longN n y) (longX x y) := ⟨_, rfl⟩
    rw [← hW] at h15 h18m h18l he hmore
    rw [← hW2] at h15m h18m hmore
    rw [← hW3] at h15l h18l he'
    obtain ⟨A, B, e⟩ := W
    obtain ⟨A2, B2, e2⟩ := W2
    obtain ⟨A3, B3, e3⟩ := W3
    dsimp only at h15 h15m h15l h18m h18l he he' hmore
    repeat (first | refine z25 ?_ | refine z36 ?_ | refine z34 ?_ | (refine z3 fun K hK => ?_; simp (maxSteps := 4000000) only [go_sem]; (repeat (first | (refine ⟨_, .lent (hf := h15) (hd := rfl) (hr := rfl), ?_⟩; simp (maxSteps := 4000000) only [go_sem]) | (refine ⟨_, .given (hf := h15) (hd := rfl) (ha := rfl), ?_⟩; simp (maxSteps := 4000000) only [go_sem]))); refine hK _ ?_; clear hK K) | refine z7 ?_ | refine z206 ?_ | refine z98 ?_ | refine z61 ?_ | refine z117 rfl ?_ | refine z107 ?_ | refine z55 ?_ | refine z124 ?_ | refine z100 ?_ | refine z4 ?_)
    refine z3 fun K hK => ?_
    simp (maxSteps := 4000000) only [go_sem]
    refine ⟨_, .made (news := [52]) (hf := h17) (hd := rfl) (hn := by decide) (hl := rfl) (hnew := rfl) (hx := rfl), ?_⟩
    simp (maxSteps := 4000000) only [go_sem, List.map_cons, List.map_nil]
    refine hK _ ?_
    clear hK K
    repeat (first | refine z25 ?_ | refine z36 ?_ | refine z34 ?_ | (refine z3 fun K hK => ?_; simp (maxSteps := 4000000) only [go_sem, hcl1]; (repeat (first | (refine ⟨_, .lent (hf := h12m) (hd := rfl) (hr := rfl), ?_⟩; simp (maxSteps := 4000000) only [go_sem, hcl1]) | (refine ⟨_, .given (hf := h12m) (hd := rfl) (ha := rfl), ?_⟩; simp (maxSteps := 4000000) only [go_sem, hcl1]))); refine hK _ ?_; clear hK K) | refine z7 ?_ | refine z206 ?_ | refine z98 ?_ | refine z61 ?_ | refine z117 rfl ?_ | refine z107 ?_ | refine z55 ?_ | refine z124 ?_ | refine z100 ?_ | refine z4 ?_)
    refine z18 [(10, .undef), (52, .undef), (53, .undef), (54, .undef), (57, .undef), (58, .undef), (59, .undef), (61, .undef)] [(10, none), (52, none), (57, none)] ?_ ?_
    · cases hv : validB n (moreX x y.clue)
      · refine z5 (b := false) (by rw [← hv]; rfl) (fun hc => by cases hc) (fun _ => ?_)
        repeat (first | refine z25 ?_ | refine z36 ?_ | refine z34 ?_ | (refine z3 fun K hK => ?_; simp (maxSteps := 4000000) only [go_sem]; refine hK _ ?_; clear hK K) | refine z7 ?_ | refine z206 ?_ | refine z98 ?_ | refine z61 ?_ | refine z117 rfl ?_ | refine z107 ?_ | refine z55 ?_ | refine z124 ?_ | refine z100 ?_ | refine z4 ?_)
        refine ⟨rfl, ?_⟩
        simp (maxSteps := 4000000) only [go_sem]
        refine z69 [] ?_ ?_ rfl rfl <;> simp [lessT, lessM, lessB, AV.less]
      · refine z5 (b := true) (by rw [← hv]; rfl) (fun _ => ?_) (fun hc => by cases hc)
        obtain ⟨hm1, hm2⟩ := hmore hv
        rw [hm2] at h18m
        rcases hm1 with rfl | rfl
        · repeat (first | refine z25 ?_ | refine z36 ?_ | refine z34 ?_ | (refine z3 fun K hK => ?_; simp (maxSteps := 4000000) only [go_sem]; (repeat (first | (refine ⟨_, .lent (hf := h15m) (hd := rfl) (hr := rfl), ?_⟩; simp (maxSteps := 4000000) only [go_sem]) | (refine ⟨_, .lent (hf := h18m) (hd := rfl) (hr := rfl), ?_⟩; simp (maxSteps := 4000000) only [go_sem]) | (refine ⟨_, .given (hf := h15m) (hd := rfl) (ha := rfl), ?_⟩; simp (maxSteps := 4000000) only [go_sem]) | (refine ⟨_, .given (hf := h18m) (hd := rfl) (ha := rfl), ?_⟩; simp (maxSteps := 4000000) only [go_sem]))); refine hK _ ?_; clear hK K) | refine z7 ?_ | refine z206 ?_ | refine z98 ?_ | refine z61 ?_ | refine z117 rfl ?_ | refine z107 ?_ | refine z55 ?_ | refine z124 ?_ | refine z100 ?_ | refine z4 ?_)
          refine z6 (by rfl) ?_
          repeat (first | refine z25 ?_ | refine z36 ?_ | refine z34 ?_ | (refine z3 fun K hK => ?_; simp (maxSteps := 4000000) only [go_sem]; refine hK _ ?_; clear hK K) | refine z7 ?_ | refine z206 ?_ | refine z98 ?_ | refine z61 ?_ | refine z117 rfl ?_ | refine z107 ?_ | refine z55 ?_ | refine z124 ?_ | refine z100 ?_ | refine z4 ?_)
          refine ⟨rfl, ?_⟩
          simp (maxSteps := 4000000) only [go_sem]
          refine z69 [] ?_ ?_ rfl rfl <;> simp [lessT, lessM, lessB, AV.less]
        · repeat (first | refine z25 ?_ | refine z36 ?_ | refine z34 ?_ | (refine z3 fun K hK => ?_; simp (maxSteps := 4000000) only [go_sem]; (repeat (first | (refine ⟨_, .lent (hf := h15m) (hd := rfl) (hr := rfl), ?_⟩; simp (maxSteps := 4000000) only [go_sem]) | (refine ⟨_, .lent (hf := h18m) (hd := rfl) (hr := rfl), ?_⟩; simp (maxSteps := 4000000) only [go_sem]) | (refine ⟨_, .given (hf := h15m) (hd := rfl) (ha := rfl), ?_⟩; simp (maxSteps := 4000000) only [go_sem]) | (refine ⟨_, .given (hf := h18m) (hd := rfl) (ha := rfl), ?_⟩; simp (maxSteps := 4000000) only [go_sem]))); refine hK _ ?_; clear hK K) | refine z7 ?_ | refine z206 ?_ | refine z98 ?_ | refine z61 ?_ | refine z117 rfl ?_ | refine z107 ?_ | refine z55 ?_ | refine z124 ?_ | refine z100 ?_ | refine z4 ?_)
          refine z6 (by rfl) ?_
          repeat (first | refine z25 ?_ | refine z36 ?_ | refine z34 ?_ | (refine z3 fun K hK => ?_; simp (maxSteps := 4000000) only [go_sem]; refine hK _ ?_; clear hK K) | refine z7 ?_ | refine z206 ?_ | refine z98 ?_ | refine z61 ?_ | refine z117 rfl ?_ | refine z107 ?_ | refine z55 ?_ | refine z124 ?_ | refine z100 ?_ | refine z4 ?_)
          refine ⟨rfl, ?_⟩
          simp (maxSteps := 4000000) only [go_sem]
          refine z69 [] ?_ ?_ rfl rfl <;> simp [lessT, lessM, lessB, AV.less]
    · simp (maxSteps := 4000000) only [go_sem]
      repeat (first | refine z25 ?_ | refine z36 ?_)
      refine z3 fun K hK => ?_
      simp (maxSteps := 4000000) only [go_sem]
      refine ⟨_, .made (news := [85]) (hf := h17) (hd := rfl) (hn := by decide) (hl := rfl) (hnew := rfl) (hx := rfl), ?_⟩
      simp (maxSteps := 4000000) only [go_sem, List.map_cons, List.map_nil]
      refine hK _ ?_
      clear hK K
      repeat (first | refine z25 ?_ | refine z36 ?_ | refine z34 ?_ | (refine z3 fun K hK => ?_; simp (maxSteps := 4000000) only [go_sem]; refine hK _ ?_; clear hK K) | refine z7 ?_ | refine z206 ?_ | refine z98 ?_ | refine z61 ?_ | refine z117 rfl ?_ | refine z107 ?_ | refine z55 ?_ | refine z124 ?_ | refine z100 ?_ | refine z4 ?_)
      refine z3 fun K hK => ?_
      simp (maxSteps := 4000000) only [go_sem]
      refine ⟨_, .made (news := [94]) (hf := h19) (hd := rfl) (hn := by decide) (hl := rfl) (hnew := rfl) (hx := rfl), ?_⟩
      simp (maxSteps := 4000000) only [go_sem, List.map_cons, List.map_nil]
      refine hK _ ?_
      clear hK K
      repeat (first | refine z25 ?_ | refine z36 ?_ | refine z34 ?_ | (refine z3 fun K hK => ?_; simp (maxSteps := 4000000) only [go_sem]; refine hK _ ?_; clear hK K) | refine z7 ?_ | refine z206 ?_ | refine z98 ?_ | refine z61 ?_ | refine z117 rfl ?_ | refine z107 ?_ | refine z55 ?_ | refine z124 ?_ | refine z100 ?_ | refine z4 ?_)
      refine z18 [(105, .d (.bool (decide (y.path ≥ 0) && decide (y.path < (n.paths.length : Int)))))] [] ?_ ?_
      · refine z3 fun K hK => ?_
        simp (maxSteps := 4000000) only [go_sem, hrl, List.length_map]
        by_cases ho0 : (decide (y.path ≥ 0)) = true
        · simp (maxSteps := 4000000) only [go_sem, hrl, List.length_map, ho0]
          refine hK _ ?_
          clear hK K
          refine z7 ?_
          refine z4 ?_
          refine ⟨rfl, ?_⟩
          rw [show (decide (y.path ≥ 0) && decide (y.path < (n.paths.length : Int))) = (decide (y.path < (n.paths.length : Int))) from by simp [ho0]]
          simp (maxSteps := 4000000) only [go_sem]
          refine z69 [] ?_ ?_ rfl rfl <;> simp [lessT, lessM, lessB, AV.less]
        · simp (maxSteps := 4000000) only [go_sem, hrl, List.length_map, ho0]
          refine hK _ ?_
          clear hK K
          refine z7 ?_
          refine z4 ?_
          refine ⟨rfl, ?_⟩
          rw [show (decide (y.path ≥ 0) && decide (y.path < (n.paths.length : Int))) = (false) from by simp [ho0]]
          simp (maxSteps := 4000000) only [go_sem]
          refine z69 [] ?_ ?_ rfl rfl <;> simp [lessT, lessM, lessB, AV.less]
      simp (maxSteps := 4000000) only [go_sem]
      refine z18 [] [(94, some (.arr 52 8 ((longN n y).paths.map Path.row)))] ?_ ?_
      · by_cases hin : 0 ≤ y.path ∧ y.path < (n.paths.length : Int)
        · have hcd : (decide (y.path ≥ 0) && decide (y.path < (n.paths.length : Int))) = true := by simp [hin.1, hin.2]
          refine z5 (b := true) (by rw [← hcd]; rfl) (fun _ => ?_) (fun hc => by cases hc)
          obtain ⟨k, hk⟩ : ∃ k : Nat, y.path = k := ⟨y.path.toNat, by omega⟩
          have hkl : k < n.paths.length := by omega
          obtain ⟨z, hz⟩ : ∃ z, n.paths[k]? = some z := ⟨_, List.getElem?_eq_getElem hkl⟩
          have gp : (n.paths.map Path.row)[k]? = some z.row := by rw [List.getElem?_map, hz]; rfl
          have hmod : (longN n y).paths.map Path.row = (n.paths.map Path.row).set k (longP z y.time).row := by
            rw [longN, if_pos hin, hk, Int.toNat_natCast]
            refine List.ext_getElem? fun i => ?_
            rw [List.getElem?_map, List.getElem?_modify, List.getElem?_set]
            by_cases hik : k = i
            · subst hik
              rw [if_pos rfl, hz, if_pos (by rw [List.length_map]; exact hkl)]
              simp
            · rw [if_neg hik, List.getElem?_map]
              simp [hik]
          rw [longP, Path.row] at hmod
          dsimp only at hmod
          rw [Path.row] at gp
          have nk : ¬ ((k : Int) < 0) := by omega
          repeat (first | refine z25 ?_ | refine z36 ?_ | refine z34 ?_ | (refine z3 fun K hK => ?_; simp (maxSteps := 4000000) only [go_sem]; refine hK _ ?_; clear hK K) | refine z7 ?_ | refine z206 ?_ | refine z98 ?_ | refine z61 ?_ | refine z117 rfl ?_ | refine z107 ?_ | refine z55 ?_ | refine z124 ?_ | refine z100 ?_ | refine z4 ?_)
          refine z8 (by kernel_rfl) (by kernel_rfl) fun K hK => ?_
          simp (maxSteps := 4000000) only [go_sem, hk, gp, hkl, nk, hrl]
          refine ⟨by kernel_rfl, hK _ ?_⟩
          clear hK K
          have hset : ∀ R, ((n.paths.map Path.row).set k R)[k]? = some R := fun R => by rw [List.getElem?_set, if_pos rfl, if_pos (by rw [hrl]; exact hkl)]
          repeat (first | refine z25 ?_ | refine z36 ?_ | refine z34 ?_ | (refine z3 fun K hK => ?_; simp (maxSteps := 4000000) only [go_sem, hk, gp, hkl, nk, hrl, hset, List.length_set, List.set_set]; refine hK _ ?_; clear hK K) | refine z7 ?_ | refine z206 ?_ | refine z98 ?_ | refine z61 ?_ | refine z117 rfl ?_ | refine z107 ?_ | refine z55 ?_ | refine z124 ?_ | refine z100 ?_ | refine z4 ?_)
          refine ⟨rfl, ?_⟩
          rw [wr] at hmod
          rw [hmod]
          simp (maxSteps := 4000000) only [go_sem, hk]
          refine z69 [] ?_ ?_ rfl rfl <;> simp [lessT, lessM, lessB, AV.less]
        · have hcd : (decide (y.path ≥ 0) && decide (y.path < (n.paths.length : Int))) = false := by simp; omega
          refine z5 (b := false) (by rw [← hcd]; rfl) (fun hc => by cases hc) (fun _ => ?_)
          have hln : longN n y = n := by rw [longN, if_neg hin]
          repeat (first | refine z25 ?_ | refine z36 ?_ | refine z34 ?_ | (refine z3 fun K hK => ?_; simp (maxSteps := 4000000) only [go_sem]; refine hK _ ?_; clear hK K) | refine z7 ?_ | refine z206 ?_ | refine z98 ?_ | refine z61 ?_ | refine z117 rfl ?_ | refine z107 ?_ | refine z55 ?_ | refine z124 ?_ | refine z100 ?_ | refine z4 ?_)
          refine ⟨rfl, ?_⟩
          rw [hln]
          simp (maxSteps := 4000000) only [go_sem]
          refine z69 [] ?_ ?_ rfl rfl <;> simp [lessT, lessM, lessB, AV.less]
      · simp (maxSteps := 4000000) only [go_sem]
        rcases he with rfl | rfl
        · repeat (first | refine z25 ?_ | refine z36 ?_ | refine z34 ?_ | (refine z3 fun K hK => ?_; simp (maxSteps := 4000000) only [go_sem]; refine hK _ ?_; clear hK K) | refine z7 ?_ | refine z206 ?_ | refine z98 ?_ | refine z61 ?_ | refine z117 rfl ?_ | refine z107 ?_ | refine z55 ?_ | refine z124 ?_ | refine z100 ?_ | refine z4 ?_)
          refine z6 (by rfl) ?_
          repeat (first | refine z25 ?_ | refine z36 ?_ | refine z34 ?_ | (refine z3 fun K hK => ?_; simp (maxSteps := 4000000) only [go_sem]; (repeat (first | (refine ⟨_, .lent (hf := h15l) (hd := rfl) (hr := rfl), ?_⟩; simp (maxSteps := 4000000) only [go_sem]) | (refine ⟨_, .given (hf := h15l) (hd := rfl) (ha := rfl), ?_⟩; simp (maxSteps := 4000000) only [go_sem]))); refine hK _ ?_; clear hK K) | refine z7 ?_ | refine z206 ?_ | refine z98 ?_ | refine z61 ?_ | refine z117 rfl ?_ | refine z107 ?_ | refine z55 ?_ | refine z124 ?_ | refine z100 ?_ | refine z4 ?_)
          rcases he' with rfl | rfl
          · repeat (first | refine z25 ?_ | refine z36 ?_ | refine z34 ?_ | (refine z3 fun K hK => ?_; simp (maxSteps := 4000000) only [go_sem]; (repeat (first | (refine ⟨_, .lent (hf := h18l) (hd := rfl) (hr := rfl), ?_⟩; simp (maxSteps := 4000000) only [go_sem]) | (refine ⟨_, .lent (hf := h14) (hd := rfl) (hr := rfl), ?_⟩; simp (maxSteps := 4000000) only [go_sem]) | (refine ⟨_, .given (hf := h18l) (hd := rfl) (ha := rfl), ?_⟩; simp (maxSteps := 4000000) only [go_sem]) | (refine ⟨_, .given (hf := h14) (hd := rfl) (ha := rfl), ?_⟩; simp (maxSteps := 4000000) only [go_sem]))); refine hK _ ?_; clear hK K) | refine z7 ?_ | refine z206 ?_ | refine z98 ?_ | refine z61 ?_ | refine z117 rfl ?_ | refine z107 ?_ | refine z55 ?_ | refine z124 ?_ | refine z100 ?_ | refine z4 ?_)
            simp (maxSteps := 4000000) only [go_sem]
          · repeat (first | refine z25 ?_ | refine z36 ?_ | refine z34 ?_ | (refine z3 fun K hK => ?_; simp (maxSteps := 4000000) only [go_sem]; (repeat (first | (refine ⟨_, .lent (hf := h18l) (hd := rfl) (hr := rfl), ?_⟩; simp (maxSteps := 4000000) only [go_sem]) | (refine ⟨_, .lent (hf := h14) (hd := rfl) (hr := rfl), ?_⟩; simp (maxSteps := 4000000) only [go_sem]) | (refine ⟨_, .given (hf := h18l) (hd := rfl) (ha := rfl), ?_⟩; simp (maxSteps := 4000000) only [go_sem]) | (refine ⟨_, .given (hf := h14) (hd := rfl) (ha := rfl), ?_⟩; simp (maxSteps := 4000000) only [go_sem]))); refine hK _ ?_; clear hK K) | refine z7 ?_ | refine z206 ?_ | refine z98 ?_ | refine z61 ?_ | refine z117 rfl ?_ | refine z107 ?_ | refine z55 ?_ | refine z124 ?_ | refine z100 ?_ | refine z4 ?_)
            simp (maxSteps := 4000000) only [go_sem]
        · repeat (first | refine z25 ?_ | refine z36 ?_ | refine z34 ?_ | (refine z3 fun K hK => ?_; simp (maxSteps := 4000000) only [go_sem]; refine hK _ ?_; clear hK K) | refine z7 ?_ | refine z206 ?_ | refine z98 ?_ | refine z61 ?_ | refine z117 rfl ?_ | refine z107 ?_ | refine z55 ?_ | refine z124 ?_ | refine z100 ?_ | refine z4 ?_)
          refine z6 (by rfl) ?_
          repeat (first | refine z25 ?_ | refine z36 ?_ | refine z34 ?_ | (refine z3 fun K hK => ?_; simp (maxSteps := 4000000) only [go_sem]; (repeat (first | (refine ⟨_, .lent (hf := h15l) (hd := rfl) (hr := rfl), ?_⟩; simp (maxSteps := 4000000) only [go_sem]) | (refine ⟨_, .given (hf := h15l) (hd := rfl) (ha := rfl), ?_⟩; simp (maxSteps := 4000000) only [go_sem]))); refine hK _ ?_; clear hK K) | refine z7 ?_ | refine z206 ?_ | refine z98 ?_ | refine z61 ?_ | refine z117 rfl ?_ | refine z107 ?_ | refine z55 ?_ | refine z124 ?_ | refine z100 ?_ | refine z4 ?_)
          rcases he' with rfl | rfl
          · repeat (first | refine z25 ?_ | refine z36 ?_ | refine z34 ?_ | (refine z3 fun K hK => ?_; simp (maxSteps := 4000000) only [go_sem]; (repeat (first | (refine ⟨_, .lent (hf := h18l) (hd := rfl) (hr := rfl), ?_⟩; simp (maxSteps := 4000000) only [go_sem]) | (refine ⟨_, .lent (hf := h14) (hd := rfl) (hr := rfl), ?_⟩; simp (maxSteps := 4000000) only [go_sem]) | (refine ⟨_, .given (hf := h18l) (hd := rfl) (ha := rfl), ?_⟩; simp (maxSteps := 4000000) only [go_sem]) | (refine ⟨_, .given (hf := h14) (hd := rfl) (ha := rfl), ?_⟩; simp (maxSteps := 4000000) only [go_sem]))); refine hK _ ?_; clear hK K) | refine z7 ?_ | refine z206 ?_ | refine z98 ?_ | refine z61 ?_ | refine z117 rfl ?_ | refine z107 ?_ | refine z55 ?_ | refine z124 ?_ | refine z100 ?_ | refine z4 ?_)
            simp (maxSteps := 4000000) only [go_sem]
          · repeat (first | refine z25 ?_ | refine z36 ?_ | refine z34 ?_ | (refine z3 fun K hK => ?_; simp (maxSteps := 4000000) only [go_sem]; (repeat (first | (refine ⟨_, .lent (hf := h18l) (hd := rfl) (hr := rfl), ?_⟩; simp (maxSteps := 4000000) only [go_sem]) | (refine ⟨_, .lent (hf := h14) (hd := rfl) (hr := rfl), ?_⟩; simp (maxSteps := 4000000) only [go_sem]) | (refine ⟨_, .given (hf := h18l) (hd := rfl) (ha := rfl), ?_⟩; simp (maxSteps := 4000000) only [go_sem]) | (refine ⟨_, .given (hf := h14) (hd := rfl) (ha := rfl), ?_⟩; simp (maxSteps := 4000000) only [go_sem]))); refine hK _ ?_; clear hK K) | refine z7 ?_ | refine z206 ?_ | refine z98 ?_ | refine z61 ?_ | refine z117 rfl ?_ | refine z107 ?_ | refine z55 ?_ | refine z124 ?_ | refine z100 ?_ | refine z4 ?_)
            simp (maxSteps := 4000000) only [go_sem]
end Go.Ab
namespace Go.Ab
open Go.RowKit Go.Proofs Go.ChangeShapes Go.WideShapes Go.Proofs.YtfkbbaagifpjpaaDoor
set_option linter.unusedVariables false
set_option maxRecDepth 100000
def moreS : List Sh := [iS, iS, .bool, iS, iS, iS]
theorem more_of {N : Nat} {r : List DV} (h : Sh.fitsL N moreS r) : ∃ x : MoreT, r = x.row := by
  simp only [moreS, iS, Sh.fitsL, Sh.fits] at h
  obtain ⟨_, _, rfl, ⟨a, rfl, _⟩, _, _, rfl, ⟨b, rfl, _⟩, _, _, rfl, ⟨c, rfl⟩, _, _, rfl, ⟨d, rfl, _⟩, _, _, rfl, ⟨e, rfl, _⟩, _, _, rfl, ⟨f, rfl, _⟩, rfl⟩ := h
  exact ⟨⟨⟨a, b, c⟩, d, e, f⟩, rfl⟩
theorem moreSh : shapes Tryd.prog 20 46 = some moreS := by kernel_rfl
theorem rdMore : Rd 46 (fun x => ∃ y : MoreT, x = .agg y.row) :=
  ⟨by kernel_rfl, of_decide_eq_true (by kernel_rfl), fun H enc w base v d ps hok h hd => by
    obtain ⟨e0, hf0, r0⟩ := z905 moreSh (by decide) h hd
    obtain ⟨x, rfl⟩ := more_of hf0
    exact ⟨_, ⟨x, rfl⟩, r0⟩⟩
abbrev aO : TypeId × (DV → Prop) := (46, fun x => ∃ y : MoreT, x = .agg y.row)
end Go.Ab
