/- A walk engine over abstract states, and the contracts of the functions that the statement reaches: part 6. -/
import Derived.Test.YtgjnckiifffneaaWe
set_option linter.unusedVariables false
set_option linter.unusedSimpArgs false
set_option linter.unnecessarySimpa false
namespace Go.Ab
open Go.RowKit Go.Proofs
def menusF (k : Kitchen) : Nat → Nat → List (List (List Int))
  | 0, _ => [[]]
  | c + 1, d => (choicesL k d).flatMap fun m => (menusF k c (d + 1)).map (m :: ·)
def everyL (k : Kitchen) (c : Nat) (pre : List (List Int)) (row : List Int) : List (List (List Int)) :=
  (addL ((suitDay k pre.length).drop row.length) row).flatMap fun m => (menusF k c (pre.length + 1)).map fun t => pre ++ m :: t
theorem z844 {k : Kitchen} {pre : List (List Int)} {row : List Int} (h : (suitDay k pre.length).length ≤ row.length) : everyL k 0 pre row = [pre ++ [row]] := by
  rw [everyL, List.drop_of_length_le h, addL]
  rfl
theorem z928 {k : Kitchen} {c : Nat} {pre : List (List Int)} {row : List Int} (h : (suitDay k pre.length).length ≤ row.length) : everyL k (c + 1) pre row = everyL k c (pre ++ [row]) [] := by
  rw [everyL, everyL, List.drop_of_length_le h, addL]
  simp only [List.flatMap_cons, List.flatMap_nil, List.append_nil, menusF, List.length_append, List.length_cons, List.length_nil, Nat.zero_add, List.drop_zero, List.map_flatMap, List.map_map]
  rw [choicesL]
  simp only [List.append_assoc, List.cons_append, List.nil_append, Function.comp_def]
theorem z845 {k : Kitchen} {c : Nat} {pre : List (List Int)} {row S : List Int} (h : (suitDay k pre.length)[row.length]? = some S) : everyL k c pre row = S.flatMap fun x => everyL k c pre (row ++ [x]) := by
  rw [everyL, z25 h, addL, List.flatMap_assoc]
  simp only [everyL, List.length_append, List.length_cons, List.length_nil, Nat.zero_add]
theorem z104 {α β : Type} {f : α → List β} {n : Nat} : ∀ {l : List α}, (∀ x ∈ l, (f x).length ≤ n) → (l.flatMap f).length ≤ l.length * n
  | [], _ => by simp
  | x :: l, h => by
    have := h x (by simp)
    have := z104 (f := f) (n := n) (l := l) fun y hy => h y (by simp [hy])
    rw [List.flatMap_cons, List.length_append, List.length_cons, Nat.add_mul, Nat.one_mul]
    omega
theorem z504 : ∀ (SS : List (List Int)) (pre : List Int), (∀ S ∈ SS, S.length ≤ 3) → (addL SS pre).length ≤ 3 ^ SS.length
  | [], _, _ => by simp [addL]
  | S :: gs, pre, h => by
    have h1 := z104 (f := fun d => addL gs (pre ++ [d])) (n := 3 ^ gs.length) (l := S) fun x _ => z504 gs _ fun T hT => h T (by simp [hT])
    have h2 := Nat.mul_le_mul_right (3 ^ gs.length) (h S (by simp))
    rw [addL, List.length_cons, Nat.pow_succ]
    omega
structure Few (k : Kitchen) : Prop where
  dishes : k.dishes.length ≤ 3
  days : k.days.length ≤ 3
  groups : ∀ d ∈ k.days, d.length ≤ 2
theorem Few.suit {k : Kitchen} (h : Few k) (d : Nat) : (suitDay k d).length ≤ 2 ∧ ∀ S ∈ suitDay k d, S.length ≤ 3 := by
  refine ⟨?_, fun S hS => ?_⟩
  · rw [suitDay, List.length_map, List.getD_eq_getElem?_getD]
    cases hx : k.days[d]? with
    | none => simp
    | some x => exact h.groups x (List.mem_of_getElem? hx)
  · obtain ⟨g, _, rfl⟩ := List.mem_map.1 hS
    have := z120 k g.no k.dishes.length
    have := h.dishes
    rw [suitL]
    omega
theorem z730 {k : Kitchen} (h : Few k) (d : Nat) : (choicesL k d).length ≤ 9 := by
  obtain ⟨h1, h2⟩ := h.suit d
  have h3 := z504 (suitDay k d) [] h2
  have h4 : 3 ^ (suitDay k d).length ≤ 3 ^ 2 := Nat.pow_le_pow_right (by decide) h1
  rw [choicesL]
  omega
theorem z406 {k : Kitchen} (h : Few k) : ∀ c d, (menusF k c d).length ≤ 9 ^ c
  | 0, _ => by simp [menusF]
  | c + 1, d => by
    have h1 := z104 (f := fun m => (menusF k c (d + 1)).map (m :: ·)) (n := 9 ^ c) (l := choicesL k d) fun x _ => by rw [List.length_map]; exact z406 h c _
    have h2 := Nat.mul_le_mul_right (9 ^ c) (z730 h d)
    rw [menusF, Nat.pow_succ]
    omega
theorem z606 {k : Kitchen} (h : Few k) {c : Nat} (hc : c ≤ 2) (pre : List (List Int)) (row : List Int) : (everyL k c pre row).length ≤ 729 := by
  obtain ⟨h1, h2⟩ := h.suit pre.length
  have h3 := z504 ((suitDay k pre.length).drop row.length) row fun S hS => h2 S (List.mem_of_mem_drop hS)
  have h4 : 3 ^ ((suitDay k pre.length).drop row.length).length ≤ 3 ^ 2 := Nat.pow_le_pow_right (by decide) (by rw [List.length_drop]; omega)
  have h5 := z104 (f := fun m => (menusF k c (pre.length + 1)).map fun t => pre ++ m :: t) (n := 9 ^ c) (l := addL ((suitDay k pre.length).drop row.length) row) fun x _ => by rw [List.length_map]; exact z406 h c _
  have h6 : 9 ^ c ≤ 9 ^ 2 := Nat.pow_le_pow_right (by decide) hc
  have h7 := Nat.mul_le_mul (Nat.le_trans h3 h4) h6
  rw [everyL]
  omega
def bestE (k : Kitchen) (a : Option (List (List Int) × Int)) (M : List (List Int)) : Option (List (List Int) × Int) :=
  if mostK k M = k.days.length then (match a with
    | none => some (M, (endSt k M (pickC k true)).2)
    | some b => if (endSt k M (pickC k true)).2 < b.2 then some (M, (endSt k M (pickC k true)).2) else a) else a
def allM (k : Kitchen) : List (List (List Int)) := menusF k k.days.length 0
theorem z929 {k : Kitchen} (hd : 1 ≤ k.days.length) : everyL k (k.days.length - 1) [] [] = allM k := by
  obtain ⟨c, hc⟩ : ∃ c, k.days.length = c + 1 := ⟨k.days.length - 1, by omega⟩
  rw [allM, hc, everyL, Nat.add_sub_cancel, menusF, choicesL]
  simp
theorem z182 {k : Kitchen} : ∀ {c d : Nat} {M : List (List Int)}, M ∈ menusF k c d ↔ M.length = c ∧ ∀ i, i < c → ∃ r, M[i]? = some r ∧ r ∈ choicesL k (d + i)
  | 0, d, M => by
    simp only [menusF, List.mem_singleton]
    exact ⟨fun h => by subst h; exact ⟨rfl, fun i hi => by omega⟩, fun h => List.eq_nil_of_length_eq_zero h.1⟩
  | c + 1, d, M => by
    simp only [menusF, List.mem_flatMap, List.mem_map]
    constructor
    · rintro ⟨m, hm, t, ht, rfl⟩
      obtain ⟨h1, h2⟩ := z182.1 ht
      refine ⟨by simp [h1], fun i hi => ?_⟩
      cases i with
      | zero => exact ⟨m, rfl, hm⟩
      | succ i =>
        obtain ⟨r, hr, hrc⟩ := h2 i (by omega)
        exact ⟨r, by simpa using hr, by rwa [show d + (i + 1) = d + 1 + i by omega]⟩
    · rintro ⟨h1, h2⟩
      cases M with
      | nil => simp at h1
      | cons m t =>
        obtain ⟨r, hr, hrc⟩ := h2 0 (by omega)
        simp only [List.getElem?_cons_zero, Option.some.injEq] at hr
        subst hr
        refine ⟨m, hrc, t, z182.2 ⟨by simpa using h1, fun i hi => ?_⟩, rfl⟩
        obtain ⟨r, hr, hrc⟩ := h2 (i + 1) (by omega)
        exact ⟨r, by simpa using hr, by rwa [show d + 1 + i = d + (i + 1) by omega]⟩
theorem z271 {k : Kitchen} {M : List (List Int)} (h : M ∈ allM k) : shapedB (menuB k) M k.days = true := by
  obtain ⟨h1, h2⟩ := z182.1 h
  refine z215 h1 fun i r x hr hx => ?_
  have hi : i < k.days.length := (List.getElem?_eq_some_iff.1 hx).1
  obtain ⟨r', hr', hc⟩ := h2 i hi
  rw [hr] at hr'
  cases hr'
  rw [Nat.zero_add] at hc
  have e : k.days.getD i [] = x := by rw [List.getD_eq_getElem?_getD, hx]; rfl
  rw [← e]
  exact z743 hi hc
theorem z1043 {k : Kitchen} {M : List (List Int)} (h : shapedB (menuB k) M k.days = true) : M ∈ allM k := by
  have hl := z27 h
  refine z182.2 ⟨hl, fun i hi => ?_⟩
  obtain ⟨r, hr⟩ : ∃ r, M[i]? = some r := ⟨_, List.getElem?_eq_getElem (by omega)⟩
  exact ⟨r, hr, by rw [Nat.zero_add]; exact z251 h hr⟩
theorem z224 (k : Kitchen) : ∀ c d, (menusF k c d).Pairwise fun a b => earlierB a b = true
  | 0, _ => List.pairwise_singleton _ _
  | c + 1, d => by
    rw [menusF, List.pairwise_flatMap]
    refine ⟨fun m _ => ?_, (z117 k d).imp fun {a b} hab x hx y hy => ?_⟩
    · rw [List.pairwise_map]
      exact (z224 k c (d + 1)).imp fun {a b} h => by rw [earlierB, z344]; exact h
    · obtain ⟨t, _, rfl⟩ := List.mem_map.1 hx
      obtain ⟨u, _, rfl⟩ := List.mem_map.1 hy
      rw [ERow] at hab
      rw [earlierB, hab]
      rfl
theorem z851 {k : Kitchen} {a : Option (List (List Int) × Int)} {N : List (List Int)} (hn : mostK k N = k.days.length) :
    ∃ b, bestE k a N = some b ∧ b.2 ≤ (endSt k N (pickC k true)).2 ∧ (∀ b0, a = some b0 → b.2 ≤ b0.2) ∧ (bestE k a N = a ∨ (bestE k a N = some (N, (endSt k N (pickC k true)).2) ∧ ∀ b0, a = some b0 → b.2 < b0.2)) := by
  unfold bestE
  rw [if_pos hn]
  cases a with
  | none => exact ⟨_, rfl, Int.le_refl _, (fun b0 h => by cases h), .inr ⟨rfl, (fun b0 h => by cases h)⟩⟩
  | some b =>
    dsimp only
    split
    · rename_i q
      exact ⟨_, rfl, Int.le_refl _, (fun b0 h => by cases h; dsimp only; omega), .inr ⟨rfl, (fun b0 h => by cases h; exact q)⟩⟩
    · exact ⟨b, rfl, by omega, (fun b0 h => by cases h; exact Int.le_refl _), .inl rfl⟩
theorem z187 (k : Kitchen) : ∀ (L : List (List (List Int))) (a : Option (List (List Int) × Int)),
    (L.foldl (bestE k) a = a ∧ (∀ M ∈ L, mostK k M = k.days.length → ∃ b, a = some b ∧ b.2 ≤ (endSt k M (pickC k true)).2)) ∨
    ∃ (L1 : List (List (List Int))) (M : List (List Int)) (L2 : List (List (List Int))), L = L1 ++ M :: L2 ∧ mostK k M = k.days.length ∧ L.foldl (bestE k) a = some (M, (endSt k M (pickC k true)).2) ∧
      (∀ M' ∈ L, mostK k M' = k.days.length → (endSt k M (pickC k true)).2 ≤ (endSt k M' (pickC k true)).2) ∧ (∀ M' ∈ L1, mostK k M' = k.days.length → (endSt k M (pickC k true)).2 < (endSt k M' (pickC k true)).2) ∧
      ∀ b, a = some b → (endSt k M (pickC k true)).2 < b.2
  | [], a => .inl ⟨rfl, fun M hM => by cases hM⟩
  | N :: L, a => by
    rw [List.foldl_cons]
    by_cases hn : mostK k N = k.days.length
    · obtain ⟨b, hb, hb2, hb3, hb4⟩ := z851 (a := a) hn
      rcases z187 k L (bestE k a N) with ⟨h1, h2⟩ | ⟨L1, M, L2, h1, h2, h3, h4, h5, h6⟩
      · rcases hb4 with hb4 | ⟨hb4, hb5⟩
        · left
          rw [h1, hb4]
          refine ⟨rfl, fun M hM hm => ?_⟩
          rw [hb4] at h2 hb
          rcases List.mem_cons.1 hM with rfl | hM
          · exact ⟨b, hb, hb2⟩
          · exact h2 M hM hm
        · right
          rw [hb4] at hb
          cases hb
          refine ⟨[], N, L, rfl, hn, by rw [h1, hb4], fun M' hM' hm => ?_, (fun M' h => by cases h), hb5⟩
          rcases List.mem_cons.1 hM' with rfl | hM'
          · exact Int.le_refl _
          · obtain ⟨b, hb1, hb2⟩ := h2 M' hM' hm
            rw [hb4] at hb1
            cases hb1
            exact hb2
      · right
        have hlt := h6 b hb
        refine ⟨N :: L1, M, L2, by rw [h1]; rfl, h2, h3, fun M' hM' hm => ?_, fun M' hM' hm => ?_, fun b0 h0 => Int.lt_of_lt_of_le hlt (hb3 b0 h0)⟩
        · rcases List.mem_cons.1 hM' with rfl | hM'
          · omega
          · exact h4 M' hM' hm
        · rcases List.mem_cons.1 hM' with rfl | hM'
          · omega
          · exact h5 M' hM' hm
    · have e : bestE k a N = a := by unfold bestE; rw [if_neg hn]
      rw [e]
      rcases z187 k L a with ⟨h1, h2⟩ | ⟨L1, M, L2, h1, h2, h3, h4, h5, h6⟩
      · left
        refine ⟨h1, fun M hM hm => ?_⟩
        rcases List.mem_cons.1 hM with rfl | hM
        · exact absurd hm hn
        · exact h2 M hM hm
      · right
        refine ⟨N :: L1, M, L2, by rw [h1]; rfl, h2, h3, fun M' hM' hm => ?_, fun M' hM' hm => ?_, h6⟩
        · rcases List.mem_cons.1 hM' with rfl | hM'
          · exact absurd hm hn
          · exact h4 M' hM' hm
        · rcases List.mem_cons.1 hM' with rfl | hM'
          · exact absurd hm hn
          · exact h5 M' hM' hm
theorem z1001 {k : Kitchen} (hg : KitGood k) : (allM k).foldl (bestE k) none = if wasteK k ≥ 1099511627776 then none else some ((planL k k.days.length).2, wasteK k) := by
  by_cases hw : wasteK k ≥ 1099511627776
  · rw [if_pos hw]
    rcases z187 k (allM k) none with ⟨h1, h2⟩ | ⟨L1, M, L2, h1, h2, h3, h4, h5, h6⟩
    · exact h1
    · have hM : M ∈ allM k := by rw [h1]; simp
      have := (z402 hg (z271 hM) h2).1
      omega
  · rw [if_neg hw]
    have hw : wasteK k < 1099511627776 := by omega
    obtain ⟨s1, s2⟩ := z555 hg hw
    have hP := z1043 (z710 hg hw)
    rcases z187 k (allM k) none with ⟨h1, h2⟩ | ⟨L1, M, L2, h1, h2, h3, h4, h5, h6⟩
    · obtain ⟨b, hb, _⟩ := h2 _ hP s1
      cases hb
    · have hM : M ∈ allM k := by rw [h1]; simp
      obtain ⟨l1, l2, l3⟩ := z402 hg (z271 hM) h2
      have h7 := h4 _ hP s1
      rw [s2] at h7
      have he : (endSt k M (pickC k true)).2 = wasteK k := by omega
      have hlt := l3 he
      have hsort := z224 k k.days.length 0
      change (allM k).Pairwise _ at hsort
      rw [h1] at hP hsort
      rw [List.pairwise_append] at hsort
      rw [h3, he]
      rcases List.mem_append.1 hP with hP | hP
      · have := h5 _ hP s1
        rw [s2] at this
        omega
      · rcases List.mem_cons.1 hP with hP | hP
        · rw [hP]
        · have := (List.pairwise_cons.1 hsort.2.1).1 _ hP
          rw [hlt] at this
          cases this
end Go.Ab
namespace Go.Ab
open Go.RowKit Go.Proofs
set_option maxHeartbeats 16000000
set_option maxRecDepth 20000
attribute [local irreducible] WalkL Walk
def menus3 (L : List (List (List Int))) : List (List DV) := L.map fun M => [.sl (listRows M)]
theorem z407 (L : List (List (List Int))) : (menus3 L).length = L.length := by simp [menus3]
def F47 (k : Kitchen) (c : Nat) (pre : List (List Int)) (row : List Int) : Prop :=
  Fn Try.prog 47 [.agg k.cells, .sl (listRows (pre ++ [row]))] (.sl (menus3 (everyL k c pre row)))
theorem z474 (pre : List (List Int)) (row : List Int) : (listRows (pre ++ [row]))[pre.length]? = some [.sl (intRows row)] := by
  simp [listRows]
theorem z194 (k : Kitchen) (d : Nat) : (suitDay k d).length = (k.days.getD d []).length := by simp [suitDay]
theorem z990 (k : Kitchen) (pre : List (List Int)) (row : List Int) (hd : pre.length + 1 = k.days.length) (hdy : k.days.length ≤ 3) (hr : row.length = (k.days.getD pre.length []).length) : F47 k 0 pre row := by
  have ge := z474 pre row
  have gd := z191 (k := k) (day := pre.length) (by omega)
  have hl : (pre ++ [row]).length = pre.length + 1 := by simp
  have hni : ¬ ((pre.length : Int) < 0) := by omega
  have w1 : IntKind.i64.wrap (((pre.length + 1 : Nat) : Int) - 1) = (pre.length : Int) := by rw [z16 (by omega)]; omega
  have w2 : IntKind.i64.wrap ((pre.length : Int) + 1) = ((pre.length + 1 : Nat) : Int) := by rw [z16 (by omega)]; simp
  have e1 : ((row.length : Int) == ((k.days.getD pre.length []).length : Int)) = true := by simp [hr]
  have e2 : (((pre.length + 1 : Nat) : Int) == (k.days.length : Int)) = true := by simp [hd]
  have hres := z844 (k := k) (pre := pre) (row := row) (by rw [z194]; omega)
  unfold F47
  rw [hres]
  obtain ⟨R, hR⟩ : ∃ R, R = pre ++ [row] := ⟨_, rfl⟩
  rw [← hR] at ge hl ⊢
  refine z18 87 Try.call47 Try.func47 rfl (by decide) fun J => ?_
  simp (maxSteps := 4000000) only [go_sem, St.start, Try.ntmps47, Try.results47, Kitchen.cells]
  repeat (first | refine nx ?_ | (refine z10 fun K hK => ?_; simp (maxSteps := 4000000) only [go_sem, z20, hl, w1]; refine hK _ ?_; clear hK K))
  repeat refine nx ?_
  refine z17 (by kernel_rfl) (by kernel_rfl) fun K hK => ?_
  simp (maxSteps := 4000000) only [go_sem, ge, gd, hni, e1, z19, z109]
  refine ⟨by kernel_rfl, hK _ ?_⟩
  clear hK K
  repeat (first | refine z12 rfl ?_ | refine z11 rfl ?_ | refine nx ?_ | (refine z10 fun K hK => ?_; simp (maxSteps := 4000000) only [go_sem, w2, e2, z208]; refine hK _ ?_; clear hK K))
  simp (maxSteps := 4000000) only [go_sem, menus3, List.map_cons, List.map_nil]
theorem z1032 (k : Kitchen) (c : Nat) (pre : List (List Int)) (row : List Int) (hd : pre.length + 1 < k.days.length) (hdy : k.days.length ≤ 3) (hr : row.length = (k.days.getD pre.length []).length)
    (ih : F47 k c (pre ++ [row]) []) : F47 k (c + 1) pre row := by
  have ge := z474 pre row
  have gd := z191 (k := k) (day := pre.length) (by omega)
  have hl : (pre ++ [row]).length = pre.length + 1 := by simp
  have hni : ¬ ((pre.length : Int) < 0) := by omega
  have w1 : IntKind.i64.wrap (((pre.length + 1 : Nat) : Int) - 1) = (pre.length : Int) := by rw [z16 (by omega)]; omega
  have w2 : IntKind.i64.wrap ((pre.length : Int) + 1) = ((pre.length + 1 : Nat) : Int) := by rw [z16 (by omega)]; simp
  have e1 : ((row.length : Int) == ((k.days.getD pre.length []).length : Int)) = true := by simp [hr]
  have e2 : (((pre.length + 1 : Nat) : Int) == (k.days.length : Int)) = false := by simp; omega
  have hres := z928 (k := k) (c := c) (pre := pre) (row := row) (by rw [z194]; omega)
  unfold F47 at ih ⊢
  rw [hres]
  obtain ⟨E, hE⟩ : ∃ E, E = menus3 (everyL k c (pre ++ [row]) []) := ⟨_, rfl⟩
  rw [← hE] at ih ⊢
  obtain ⟨R, hR⟩ : ∃ R, R = pre ++ [row] := ⟨_, rfl⟩
  rw [← hR] at ge hl ih ⊢
  have e5 : R.length ≤ 549755813888 := by omega
  have e6 : R.length + 1 ≤ 549755813888 := by omega
  have hh : headIs 1 (listRows R) = true := by cases R <;> rfl
  have hap : listRows R ++ [[.sl []]] = listRows (R ++ [[]]) := by simp [listRows, intRows]
  rw [Kitchen.cells] at ih
  refine z18 87 Try.call47 Try.func47 rfl (by decide) fun J => ?_
  simp (maxSteps := 4000000) only [go_sem, St.start, Try.ntmps47, Try.results47, Kitchen.cells]
  repeat (first | refine nx ?_ | (refine z10 fun K hK => ?_; simp (maxSteps := 4000000) only [go_sem, z20, hl, w1]; refine hK _ ?_; clear hK K))
  repeat refine nx ?_
  refine z17 (by kernel_rfl) (by kernel_rfl) fun K hK => ?_
  simp (maxSteps := 4000000) only [go_sem, ge, gd, hni, e1, z19, z109]
  refine ⟨by kernel_rfl, hK _ ?_⟩
  clear hK K
  repeat (first | refine z12 rfl ?_ | refine z11 rfl ?_ | refine nx ?_ | (refine z10 fun K hK => ?_; simp (maxSteps := 4000000) only [go_sem, w2, e2, z208]; refine hK _ ?_; clear hK K))
  refine z85 [38] (by kernel_rfl) (by kernel_rfl) fun K hK => ?_
  simp (maxSteps := 4000000) only [go_sem, e5, e6, hh, hap, z20, List.nil_append, List.length_nil, Nat.zero_add]
  refine ⟨_, .fn (hf := ih) (hd := rfl) (hr := .inr rfl), ?_⟩
  simp (maxSteps := 4000000) only [go_sem]
  refine ⟨by kernel_rfl, hK _ ?_⟩
  clear hK K
  repeat (first | refine z12 rfl ?_ | refine z11 rfl ?_ | refine nx ?_ | (refine z10 fun K hK => ?_; simp (maxSteps := 4000000) only [go_sem]; refine hK _ ?_; clear hK K))
  simp (maxSteps := 4000000) only [go_sem]
theorem z991 (k : Kitchen) (hg : KitGood k) (hf : Few k) (c : Nat) (hc : c ≤ 2) (pre : List (List Int)) (row : List Int) (hd : pre.length < k.days.length) (hr : row.length < (k.days.getD pre.length []).length)
    (ih : ∀ x, F47 k c pre (row ++ [x])) : F47 k c pre row := by
  have hdy := hf.days
  have ge := z474 pre row
  have gd := z191 (k := k) (day := pre.length) hd
  have gx := z761 (k := k) (day := pre.length) (group := row.length) hr
  rw [Diners.row] at gx
  have hrl : row.length ≤ 2 := by
    have := hf.suit pre.length
    rw [z194] at this
    omega
  have hl : (pre ++ [row]).length = pre.length + 1 := by simp
  have hni : ¬ ((pre.length : Int) < 0) := by omega
  have hnr : ¬ ((row.length : Int) < 0) := by omega
  have w1 : IntKind.i64.wrap (((pre.length + 1 : Nat) : Int) - 1) = (pre.length : Int) := by rw [z16 (by omega)]; omega
  have e1 : ((row.length : Int) == ((k.days.getD pre.length []).length : Int)) = false := by rw [beq_eq_false_iff_ne]; omega
  have h74 := (z1131 k hg (dinAt k pre.length row.length).no).deep
  have hSS : (suitDay k pre.length)[row.length]? = some (suitL k (dinAt k pre.length row.length).no) := by
    obtain ⟨y, hy⟩ : ∃ y, (k.days.getD pre.length [])[row.length]? = some y := ⟨_, List.getElem?_eq_getElem hr⟩
    have e : dinAt k pre.length row.length = y := by rw [dinAt, List.getD_eq_getElem?_getD (l := k.days.getD pre.length []), hy]; rfl
    rw [suitDay, List.getElem?_map, hy, e]
    rfl
  have hres := z845 (c := c) (pre := pre) hSS
  have hSl : (suitL k (dinAt k pre.length row.length).no).length ≤ 3 := (hf.suit pre.length).2 _ (List.mem_of_getElem? hSS)
  have hlen := fun x => z606 hf hc pre (row ++ [x])
  unfold F47 at ih ⊢
  rw [hres]
  obtain ⟨S, hS⟩ : ∃ S, S = suitL k (dinAt k pre.length row.length).no := ⟨_, rfl⟩
  rw [← hS] at h74 hSl ⊢
  obtain ⟨F, hF⟩ : ∃ F, F = fun x => everyL k c pre (row ++ [x]) := ⟨_, rfl⟩
  have hFx : ∀ x, everyL k c pre (row ++ [x]) = F x := fun x => by rw [hF]
  simp only [hFx] at ih hlen ⊢
  have hFl : ∀ j, j ≤ S.length → ((S.take j).flatMap F).length ≤ 3 * 729 := fun j hj => by
    have := z104 (f := F) (n := 729) (l := S.take j) fun x _ => hlen x
    rw [List.length_take] at this
    have h3 : min j S.length ≤ 3 := by omega
    have h2 := Nat.mul_le_mul_right 729 h3
    omega
  obtain ⟨X, hX⟩ : ∃ X, X = k.days.getD pre.length [] := ⟨_, rfl⟩
  rw [← hX] at gd gx hr e1
  obtain ⟨dn, hdn⟩ : ∃ dn, dn = dinAt k pre.length row.length := ⟨_, rfl⟩
  rw [← hdn] at gx h74
  have htk : (listRows (pre ++ [row])).take pre.length = listRows pre := by simp [listRows]
  have e5 : pre.length ≤ 549755813888 := by omega
  have e6 : pre.length + 1 ≤ 549755813888 := by omega
  have e7 : row.length ≤ 549755813888 := by omega
  have e8 : row.length + 1 ≤ 549755813888 := by omega
  have hh : headIs 1 (listRows pre) = true := by cases pre <;> rfl
  have hh2 : headIs 1 (intRows row) = true := by cases row <;> rfl
  have hin : (pre.length : Int) ≤ ((pre.length + 1 : Nat) : Int) := by omega
  have hin2 : pre.length ≤ pre.length + 1 := Nat.le_succ _
  have ap1 : ∀ x : Int, intRows row ++ [[.i x]] = intRows (row ++ [x]) := fun x => by simp [intRows]
  have ap2 : ∀ x : Int, listRows pre ++ [[.sl (intRows (row ++ [x]))]] = listRows (pre ++ [row ++ [x]]) := fun x => by simp [listRows]
  obtain ⟨R, hR⟩ : ∃ R, R = pre ++ [row] := ⟨_, rfl⟩
  rw [← hR] at ge hl htk ⊢
  simp only [Kitchen.cells] at ih h74
  refine z18 87 Try.call47 Try.func47 rfl (by decide) fun J => ?_
  simp (maxSteps := 4000000) only [go_sem, St.start, Try.ntmps47, Try.results47, Kitchen.cells]
  repeat (first | refine nx ?_ | (refine z10 fun K hK => ?_; simp (maxSteps := 4000000) only [go_sem, z20, hl, w1]; refine hK _ ?_; clear hK K))
  repeat refine nx ?_
  refine z17 (by kernel_rfl) (by kernel_rfl) fun K hK => ?_
  simp (maxSteps := 4000000) only [go_sem, ge, gd, hni, e1, z19, z109]
  refine ⟨by kernel_rfl, hK _ ?_⟩
  clear hK K
  repeat (first | refine z12 rfl ?_ | refine z11 rfl ?_ | refine nx ?_ | (refine z10 fun K hK => ?_; simp (maxSteps := 4000000) only [go_sem]; refine hK _ ?_; clear hK K))
  refine z17 (by kernel_rfl) (by kernel_rfl) fun K hK => ?_
  simp (maxSteps := 4000000) only [go_sem, ge, gd, gx, hni, hnr, z19, z109]
  refine ⟨_, .fn (hf := h74) (hd := rfl) (hr := .inr rfl), ?_⟩
  simp (maxSteps := 4000000) only [go_sem]
  refine ⟨by kernel_rfl, hK _ ?_⟩
  clear hK K
  repeat (first | refine nx ?_ | (refine z10 fun K hK => ?_; simp (maxSteps := 4000000) only [go_sem]; refine hK _ ?_; clear hK K))
  refine z15 (fun (j : Nat) => [(8, .d (.i (j : Int))), (6, .own 85)]) (fun j => [(85, some (.arr 28 1 (menus3 ((S.take j).flatMap F))))]) (fun j => j ≤ S.length) (fun j => S.length - j) 0 ?_ (Nat.zero_le _) ?_
  · simp (maxSteps := 4000000) only [go_sem]
    refine z13 [85] ?_ ?_ rfl rfl <;> simp [lessT, lessM, lessB, AV.less, menus3]
  · intro j hj
    simp (maxSteps := 4000000) only [go_sem]
    repeat (first | refine nx ?_ | (refine z10 fun K hK => ?_; simp (maxSteps := 4000000) only [go_sem, z19]; refine hK _ ?_; clear hK K))
    refine z14 rfl (fun hb => ?_) (fun hb => ?_)
    · have hlt : j < S.length := by simpa using hb
      have hw : IntKind.i64.wrap ((j : Int) + 1) = ((j + 1 : Nat) : Int) := by rw [z16 (by omega)]; simp
      obtain ⟨x, hx⟩ : ∃ x, S[j]? = some x := ⟨_, List.getElem?_eq_getElem hlt⟩
      have g1 := z37 hx
      have hnj : ¬ ((j : Int) < 0) := by omega
      have ihx := ih x
      have hnx : (S.take (j + 1)).flatMap F = (S.take j).flatMap F ++ F x := by rw [List.take_add_one, hx]; simp
      have q1 := hFl j (by omega)
      have q2 := hlen x
      obtain ⟨A, hA⟩ : ∃ A, A = (S.take j).flatMap F := ⟨_, rfl⟩
      rw [← hA] at hnx q1 ⊢
      have ap3 : menus3 A ++ menus3 (F x) = menus3 ((S.take (j + 1)).flatMap F) := by rw [hnx]; simp [menus3]
      have e9 : A.length + (F x).length ≤ 549755813888 := by omega
      have hh3 : headIs 1 (menus3 (F x)) = true := by cases F x <;> rfl
      have apx := ap1 x
      have apy := ap2 x
      repeat (first | refine nx ?_ | (refine z10 fun K hK => ?_; simp (maxSteps := 4000000) only [go_sem, z20, hl, hni, hin, hin2, htk, e5, hh, List.drop_zero, Nat.sub_zero, List.nil_append, List.length_nil, Nat.zero_add]; refine hK _ ?_; clear hK K))
      refine z85 [78] (by kernel_rfl) (by kernel_rfl) fun K hK => ?_
      simp (maxSteps := 4000000) only [go_sem, ge, g1, hni, hnj, e6, e7, e8, hh2, apx, apy, z20, z19, List.nil_append, List.length_nil, Nat.zero_add]
      refine ⟨by kernel_rfl, hK _ ?_⟩
      clear hK K
      repeat refine nx ?_
      refine z10 fun K hK => ?_
      simp (maxSteps := 4000000) only [go_sem]
      refine ⟨_, .given (hf := ihx) (hd := rfl) (ha := rfl), ?_⟩
      simp (maxSteps := 4000000) only [go_sem, e9, hh3, ap3, z407]
      refine hK _ ?_
      clear hK K
      repeat (first | refine nx ?_ | (refine z10 fun K hK => ?_; simp (maxSteps := 4000000) only [go_sem, hw]; refine hK _ ?_; clear hK K))
      refine ⟨rfl, j + 1, ?_, hlt, by omega⟩
      refine z13 [] ?_ ?_ rfl rfl <;> simp [lessT, lessM, lessB, AV.less]
      all_goals first | done | rfl | trace_state
    · have he : j = S.length := by (have : ¬ j < S.length := by simpa using hb); omega
      subst he
      rw [List.take_length]
      repeat (first | refine nx ?_ | (refine z10 fun K hK => ?_; simp (maxSteps := 4000000) only [go_sem]; refine hK _ ?_; clear hK K))
      simp (maxSteps := 4000000) only [go_sem]
theorem z924 (k : Kitchen) (hg : KitGood k) (hf : Few k) (c : Nat) (hc : c ≤ 2) (pre : List (List Int)) (hd : pre.length + 1 + c = k.days.length)
    (ih : ∀ row, row.length = (k.days.getD pre.length []).length → F47 k c pre row) : ∀ (r : Nat) (row : List Int), row.length + r = (k.days.getD pre.length []).length → F47 k c pre row
  | 0, row, h => ih row (by omega)
  | r + 1, row, h => z991 k hg hf c hc pre row (by omega) (by omega) fun x => z924 k hg hf c hc pre hd ih r (row ++ [x]) (by rw [List.length_append, List.length_cons, List.length_nil]; omega)
theorem z1102 (k : Kitchen) (hg : KitGood k) (hf : Few k) : ∀ (c : Nat) (pre : List (List Int)) (row : List Int), pre.length + 1 + c = k.days.length → row.length ≤ (k.days.getD pre.length []).length → F47 k c pre row
  | 0, pre, row, hd, hr => z924 k hg hf 0 (by omega) pre hd (fun row h => z990 k pre row (by omega) hf.days h) ((k.days.getD pre.length []).length - row.length) row (by omega)
  | c + 1, pre, row, hd, hr => by
    have hdy := hf.days
    refine z924 k hg hf (c + 1) (by omega) pre hd (fun row h => z1032 k c pre row (by omega) hf.days h (z1102 k hg hf c (pre ++ [row]) [] (by simp; omega) (Nat.zero_le _))) ((k.days.getD pre.length []).length - row.length) row (by omega)
end Go.Ab
namespace Go.Ab
open Go.RowKit Go.Proofs
set_option maxHeartbeats 16000000
set_option maxRecDepth 20000
attribute [local irreducible] WalkL Walk
theorem z754 {l : List Int} {i : Nat} (h : l.length ≤ i) : getI l (i : Int) = 0 := by
  rw [z114, List.getD_eq_getElem?_getD, List.getElem?_eq_none h]
  rfl
theorem z538 (k : Kitchen) (hg : KitGood k) (M : List (List Int)) (hM : shapedB (menuB k) M k.days = true) (buy : List Int) (hb : buy.length = k.allerg.length) (h : ∀ i : Nat, 0 ≤ getI buy (i : Int) ∧ getI buy (i : Int) ≤ 9000000) :
    ∃ (W : Int) (β : Bool), (β = true ↔ LeL (orderK k M) buy) ∧ Fn Try.prog 29 [.agg (moreK k buy).cells, .sl (listRows M)] (.tup [.bool β, .i W]) := by
  have h29 := z1105 (moreK k buy) (z902 hg hb h) M hM
  have hi := z891 hg hM hb fun i => (h i).1
  refine ⟨_, _, ?_, h29⟩
  change ((mostK (moreK k buy) M : Int) == (k.days.length : Int)) = true ↔ _
  rw [← hi, beq_iff_eq]
  omega
end Go.Ab
namespace Go.Ab
open Go.RowKit Go.Proofs
set_option maxHeartbeats 16000000
set_option maxRecDepth 20000
attribute [local irreducible] WalkL Walk
def bestAt (k : Kitchen) (i : Nat) : Option (List (List Int) × Int) := ((allM k).take i).foldl (bestE k) none
def pM (a : Option (List (List Int) × Int)) : List (List Int) := match a with | none => [] | some b => b.1
def pW (a : Option (List (List Int) × Int)) : Int := match a with | none => 0 | some b => b.2
theorem z904 {L : List (List (List Int))} {i : Nat} {M : List (List Int)} (h : L[i]? = some M) : (menus3 L)[i]? = some [.sl (listRows M)] := by simp [menus3, h]
theorem z1156 (k : Kitchen) (hs : KitSmall k) (hf : kitE k = 0 → Few k) : Fn Try.prog 16 [.agg k.cells] (.tup [.sl (listRows (planK k).1), .i (planK k).2.1, .i (planK k).2.2]) := by
  have h32 := z1086 k hs
  unfold planK
  by_cases h0 : ¬ kitE k = 0
  · have hb2 : (kitE k != 0) = true := by simpa using h0
    rw [if_neg h0]
    rw [Kitchen.cells] at h32 ⊢
    dsimp only
    refine z18 53 Try.call16 Try.func16 rfl (by decide) fun J => ?_
    simp (maxSteps := 4000000) only [go_sem, St.start, Try.ntmps16, Try.results16]
    repeat (first | refine z12 rfl ?_ | refine z11 rfl ?_ | refine nx ?_ | (refine z10 fun K hK => ?_; simp (maxSteps := 4000000) only [go_sem, hb2]; (repeat (first | (refine ⟨_, .lent (hf := h32) (hd := rfl) (hr := rfl), ?_⟩; simp (maxSteps := 4000000) only [go_sem, hb2]) | (refine ⟨_, .given (hf := h32) (hd := rfl) (ha := rfl), ?_⟩; simp (maxSteps := 4000000) only [go_sem, hb2]))); refine hK _ ?_; clear hK K))
    simp (maxSteps := 4000000) only [go_sem, listRows, List.map_nil]
  have h0 : kitE k = 0 := Decidable.not_not.1 h0
  have hg : KitGood k := z142 (z136.1 h0)
  have hf := hf h0
  have hdy := hg.days
  have hdy3 := hf.days
  have h47 : Fn Try.prog 47 [.agg k.cells, .sl (listRows ([] ++ [[]]))] (.sl (menus3 (everyL k (k.days.length - 1) [] []))) := z1102 k hg hf (k.days.length - 1) [] [] (by simp; omega) (Nat.zero_le _)
  have hel := z606 hf (c := k.days.length - 1) (by omega) [] []
  rw [z929 hdy.1] at h47 hel
  change Fn Try.prog 47 [.agg k.cells, .sl [[.sl []]]] _ at h47
  rw [if_pos h0]
  rw [h0] at h32
  have hbe := z1001 hg
  have z45 : ∀ i M, (allM k)[i]? = some M → shapedB (menuB k) M k.days = true := fun i M h => z271 (List.mem_of_getElem? h)
  obtain ⟨L, hL⟩ : ∃ L, L = allM k := ⟨_, rfl⟩
  obtain ⟨B, hB⟩ : ∃ B : Nat → Option (List (List Int) × Int), B = fun i => (L.take i).foldl (bestE k) none := ⟨_, rfl⟩
  have hB0 : B 0 = none := by rw [hB]; rfl
  have hBs : ∀ i M, L[i]? = some M → B (i + 1) = bestE k (B i) M := fun i M h => by
    rw [hB]
    dsimp only
    rw [List.take_add_one, h, List.foldl_append]
    rfl
  have hBe : B L.length = L.foldl (bestE k) none := by rw [hB]; dsimp only; rw [List.take_length]
  rw [← hL] at h47 hel hbe z45
  have hres : (if wasteK k ≥ 1099511627776 then (([], 0, 3) : List (List Int) × Int × Int) else ((planL k k.days.length).2, wasteK k, 0)) = (pM (B L.length), pW (B L.length), if (B L.length).isSome = true then 0 else 3) := by
    rw [hBe, hbe]
    split <;> rfl
  rw [hres]
  dsimp only
  rw [Kitchen.cells] at h32 h47
  refine z18 53 Try.call16 Try.func16 rfl (by decide) fun J => ?_
  simp (maxSteps := 4000000) only [go_sem, St.start, Try.ntmps16, Try.results16, Kitchen.cells]
  repeat (first | refine z12 rfl ?_ | refine z11 rfl ?_ | refine nx ?_ | (refine z10 fun K hK => ?_; simp (maxSteps := 4000000) only [go_sem]; (repeat (first | (refine ⟨_, .lent (hf := h32) (hd := rfl) (hr := rfl), ?_⟩; simp (maxSteps := 4000000) only [go_sem]) | (refine ⟨_, .given (hf := h32) (hd := rfl) (ha := rfl), ?_⟩; simp (maxSteps := 4000000) only [go_sem]))); refine hK _ ?_; clear hK K))
  repeat refine nx ?_
  refine z10 fun K hK => ?_
  simp (maxSteps := 4000000) only [go_sem]
  refine ⟨_, .given (hf := h47) (hd := rfl) (ha := rfl), ?_⟩
  simp (maxSteps := 4000000) only [go_sem]
  refine hK _ ?_
  clear hK K
  repeat (first | refine nx ?_ | (refine z10 fun K hK => ?_; simp (maxSteps := 4000000) only [go_sem]; refine hK _ ?_; clear hK K))
  refine z15 (fun (i : Nat) => [(8, .d (.i (i : Int))), (2, .d (.sl (listRows (pM (B i))))), (3, .d (.i (pW (B i)))), (6, .d (.bool (B i).isSome))]) (fun _ => []) (fun i => i ≤ L.length) (fun i => L.length - i) 0 ?_ (Nat.zero_le _) ?_
  · rw [hB0]
    simp (maxSteps := 4000000) only [go_sem]
    refine z13 [] ?_ ?_ rfl rfl <;> simp [lessT, lessM, lessB, AV.less]
    all_goals first | done | rfl | exact ⟨rfl, rfl⟩ | trace_state
  · intro i hi
    simp (maxSteps := 4000000) only [go_sem]
    repeat (first | refine nx ?_ | (refine z10 fun K hK => ?_; simp (maxSteps := 4000000) only [go_sem, z407]; refine hK _ ?_; clear hK K))
    refine z14 rfl (fun hb => ?_) (fun hb => ?_)
    · have hlt : i < L.length := by simpa using hb
      have hw : IntKind.i64.wrap ((i : Int) + 1) = ((i + 1 : Nat) : Int) := by rw [z16 (by omega)]; simp
      obtain ⟨M, hM⟩ : ∃ M, L[i]? = some M := ⟨_, List.getElem?_eq_getElem hlt⟩
      have g1 := z904 hM
      have hni : ¬ ((i : Int) < 0) := by omega
      have h29 := z1105 k hg M (z45 i M hM)
      have hnx := hBs i M hM
      obtain ⟨W, hW⟩ : ∃ W, W = (endSt k M (pickC k true)).2 := ⟨_, rfl⟩
      rw [← hW] at h29
      unfold bestE at hnx
      rw [← hW] at hnx
      rw [Kitchen.cells] at h29
      by_cases hm : mostK k M = k.days.length
      · have n1 : ((mostK k M : Int) == (k.days.length : Int)) = true := by simp [hm]
        rw [if_pos hm] at hnx
        rw [n1] at h29
        cases hBi : B i with
        | none =>
          rw [hBi] at hnx
          dsimp only at hnx
          repeat refine nx ?_
          refine z17 (by kernel_rfl) (by kernel_rfl) fun K hK => ?_
          simp (maxSteps := 4000000) only [go_sem, g1, hni, pM, pW, Option.isSome_none]
          refine ⟨_, .fn (hf := h29) (hd := rfl) (hr := .inr rfl), ?_⟩
          simp (maxSteps := 4000000) only [go_sem]
          refine ⟨by kernel_rfl, hK _ ?_⟩
          clear hK K
          repeat (first | refine z12 rfl ?_ | refine z11 rfl ?_ | refine nx ?_ | (refine z10 fun K hK => ?_; simp (maxSteps := 4000000) only [go_sem, g1, hni, hw]; refine hK _ ?_; clear hK K))
          refine ⟨rfl, i + 1, ?_, hlt, by omega⟩
          rw [hnx]
          refine z13 [] ?_ ?_ rfl rfl <;> simp [lessT, lessM, lessB, AV.less]
          all_goals first | done | rfl | exact ⟨rfl, rfl⟩ | trace_state
        | some b =>
          rw [hBi] at hnx
          dsimp only at hnx
          by_cases hlt2 : W < b.2
          · have d1 : decide (W < b.2) = true := decide_eq_true hlt2
            rw [if_pos hlt2] at hnx
            repeat refine nx ?_
            refine z17 (by kernel_rfl) (by kernel_rfl) fun K hK => ?_
            simp (maxSteps := 4000000) only [go_sem, g1, hni, pM, pW, Option.isSome_some]
            refine ⟨_, .fn (hf := h29) (hd := rfl) (hr := .inr rfl), ?_⟩
            simp (maxSteps := 4000000) only [go_sem]
            refine ⟨by kernel_rfl, hK _ ?_⟩
            clear hK K
            repeat (first | refine z12 rfl ?_ | refine z11 rfl ?_ | refine nx ?_ | (refine z10 fun K hK => ?_; simp (maxSteps := 4000000) only [go_sem, g1, hni, hw, d1]; refine hK _ ?_; clear hK K))
            refine ⟨rfl, i + 1, ?_, hlt, by omega⟩
            rw [hnx]
            refine z13 [] ?_ ?_ rfl rfl <;> simp [lessT, lessM, lessB, AV.less]
            all_goals first | done | rfl | exact ⟨rfl, rfl⟩ | trace_state
          · have d1 : decide (W < b.2) = false := decide_eq_false hlt2
            rw [if_neg hlt2] at hnx
            repeat refine nx ?_
            refine z17 (by kernel_rfl) (by kernel_rfl) fun K hK => ?_
            simp (maxSteps := 4000000) only [go_sem, g1, hni, pM, pW, Option.isSome_some]
            refine ⟨_, .fn (hf := h29) (hd := rfl) (hr := .inr rfl), ?_⟩
            simp (maxSteps := 4000000) only [go_sem]
            refine ⟨by kernel_rfl, hK _ ?_⟩
            clear hK K
            repeat (first | refine z12 rfl ?_ | refine z11 rfl ?_ | refine nx ?_ | (refine z10 fun K hK => ?_; simp (maxSteps := 4000000) only [go_sem, g1, hni, hw, d1]; refine hK _ ?_; clear hK K))
            refine ⟨rfl, i + 1, ?_, hlt, by omega⟩
            rw [hnx]
            refine z13 [] ?_ ?_ rfl rfl <;> simp [lessT, lessM, lessB, AV.less]
            all_goals first | done | rfl | exact ⟨rfl, rfl⟩ | trace_state
      · have n1 : ((mostK k M : Int) == (k.days.length : Int)) = false := by rw [beq_eq_false_iff_ne]; omega
        rw [if_neg hm] at hnx
        rw [n1] at h29
        repeat refine nx ?_
        refine z17 (by kernel_rfl) (by kernel_rfl) fun K hK => ?_
        simp (maxSteps := 4000000) only [go_sem, g1, hni]
        refine ⟨_, .fn (hf := h29) (hd := rfl) (hr := .inr rfl), ?_⟩
        simp (maxSteps := 4000000) only [go_sem]
        refine ⟨by kernel_rfl, hK _ ?_⟩
        clear hK K
        repeat (first | refine z12 rfl ?_ | refine z11 rfl ?_ | refine nx ?_ | (refine z10 fun K hK => ?_; simp (maxSteps := 4000000) only [go_sem, g1, hni, hw]; refine hK _ ?_; clear hK K))
        refine ⟨rfl, i + 1, ?_, hlt, by omega⟩
        rw [hnx]
        refine z13 [] ?_ ?_ rfl rfl <;> simp [lessT, lessM, lessB, AV.less]
        all_goals first | done | rfl | exact ⟨rfl, rfl⟩ | trace_state
    · have he : i = L.length := by (have : ¬ i < L.length := by simpa using hb); omega
      subst he
      cases hBl : B L.length with
      | none =>
        repeat (first | refine z12 rfl ?_ | refine z11 rfl ?_ | refine nx ?_ | (refine z10 fun K hK => ?_; simp (maxSteps := 4000000) only [go_sem, Option.isSome_none]; refine hK _ ?_; clear hK K))
        simp (maxSteps := 4000000) only [go_sem]
        rfl
      | some b =>
        repeat (first | refine z12 rfl ?_ | refine z11 rfl ?_ | refine nx ?_ | (refine z10 fun K hK => ?_; simp (maxSteps := 4000000) only [go_sem, Option.isSome_some]; refine hK _ ?_; clear hK K))
        simp (maxSteps := 4000000) only [go_sem]
        rfl
def outO (O : List Int) (g : Nat) : List Int := O.take g ++ List.replicate (O.length - g) 0
theorem z964 {O : List Int} {g : Nat} (h : g < O.length) : (outO O g).set g (getI O (g : Int)) = outO O (g + 1) := by
  have e : O[g]? = some (getI O (g : Int)) := by rw [z114, List.getD_eq_getElem?_getD, List.getElem?_eq_getElem h]; rfl
  have hl : (O.take g).length = g := by simp; omega
  rw [outO, outO, List.take_add_one, e, List.set_append_right _ _ (by omega), hl, Nat.sub_self, show O.length - g = (O.length - (g + 1)) + 1 by omega, List.replicate_succ]
  simp
theorem z965 {O : List Int} {g : Nat} (h : g ≤ O.length) : (outO O g).length = O.length := by simp [outO]; omega
def muchL (G j : Nat) : List Int := List.replicate j 9000000 ++ List.replicate (G - j) 0
theorem z901 {G j : Nat} (h : j < G) : (muchL G j).set j 9000000 = muchL G (j + 1) := by
  rw [muchL, muchL, List.set_append_right _ _ (by simp), List.length_replicate, Nat.sub_self, show G - j = (G - (j + 1)) + 1 by omega, List.replicate_succ, List.replicate_succ']
  simp
theorem z324 {G j : Nat} (h : j ≤ G) : (muchL G j).length = G := by simp [muchL]; omega
theorem z975 {G g : Nat} {m : Int} (i : Nat) (hg : g < G) : getI ((muchL G G).set g m) (i : Int) = if i = g then m else if i < G then 9000000 else 0 := by
  have hl : (muchL G G).length = G := z324 (Nat.le_refl _)
  by_cases h : i = g
  · subst h
    rw [if_pos rfl, z73 (by omega)]
  · rw [if_neg h, z105 (fun c => h c.symm)]
    by_cases h2 : i < G
    · rw [if_pos h2, z114, List.getD_eq_getElem?_getD, muchL, Nat.sub_self, List.replicate_zero, List.append_nil, List.getElem?_replicate, if_pos h2]
      rfl
    · rw [if_neg h2]
      exact z754 (by omega)
theorem z1154 (k : Kitchen) (M : List (List Int)) (hs : KitSmall k) (hM : M.length < 2 ^ 30) (hMr : ∀ r ∈ M, r.length < 2 ^ 30) :
    Fn Try.prog 19 [.agg k.cells, .sl (listRows M)] (.tup (if openK k M = 0 then [.sl (intRows (orderK k M)), .i 0] else [.sl [], .i (openK k M)])) := by
  have h50 := z1147 k M hs hM hMr
  by_cases h0 : ¬ openK k M = 0
  · have hb2 : (openK k M != 0) = true := by simpa using h0
    rw [if_neg h0]
    rw [Kitchen.cells] at h50 ⊢
    refine z18 72 Try.call19 Try.func19 rfl (by decide) fun J => ?_
    simp (maxSteps := 4000000) only [go_sem, St.start, Try.ntmps19, Try.results19]
    repeat (first | refine z12 rfl ?_ | refine z11 rfl ?_ | refine nx ?_ | (refine z10 fun K hK => ?_; simp (maxSteps := 4000000) only [go_sem, hb2]; (repeat (first | (refine ⟨_, .lent (hf := h50) (hd := rfl) (hr := rfl), ?_⟩; simp (maxSteps := 4000000) only [go_sem, hb2]) | (refine ⟨_, .given (hf := h50) (hd := rfl) (ha := rfl), ?_⟩; simp (maxSteps := 4000000) only [go_sem, hb2]))); refine hK _ ?_; clear hK K))
    simp (maxSteps := 4000000) only [go_sem]
  have h0 : openK k M = 0 := Decidable.not_not.1 h0
  obtain ⟨hg, hsh⟩ := z321 h0
  rw [if_pos h0]
  rw [h0] at h50
  have hgd := hg.goods
  have hbt := hg.batches
  have hom := z824 hg hsh
  have hol := z558 hg hsh
  have hsm := fun buy => z538 k hg M hsh buy
  obtain ⟨O, hO⟩ : ∃ O, O = orderK k M := ⟨_, rfl⟩
  rw [← hO] at hom hol hsm ⊢
  have hmk : (k.allerg.length : Int) ≤ 1099511627776 := by omega
  have hrep := z145 k.allerg.length
  have hO0 : List.replicate k.allerg.length (0 : Int) = outO O 0 := by simp [outO, hol]
  have hm0 : List.replicate k.allerg.length (0 : Int) = muchL k.allerg.length 0 := by simp [muchL]
  rw [hO0] at hrep
  have hrep2 : List.replicate k.allerg.length [DV.int IntKind.i64 0] = intRows (muchL k.allerg.length 0) := by rw [← hm0]; exact z145 _
  rw [Kitchen.cells] at h50
  refine z18 72 Try.call19 Try.func19 rfl (by decide) fun J => ?_
  simp (maxSteps := 4000000) only [go_sem, St.start, Try.ntmps19, Try.results19, Kitchen.cells]
  repeat (first | refine z12 rfl ?_ | refine z11 rfl ?_ | refine nx ?_ | (refine z10 fun K hK => ?_; simp (maxSteps := 4000000) only [go_sem]; (repeat (first | (refine ⟨_, .lent (hf := h50) (hd := rfl) (hr := rfl), ?_⟩; simp (maxSteps := 4000000) only [go_sem]) | (refine ⟨_, .given (hf := h50) (hd := rfl) (ha := rfl), ?_⟩; simp (maxSteps := 4000000) only [go_sem]))); refine hK _ ?_; clear hK K))
  repeat refine nx ?_
  refine z10 fun K hK => ?_
  simp (maxSteps := 4000000) only [go_sem, hmk, hrep, z19]
  refine hK _ ?_
  clear hK K
  repeat (first | refine nx ?_ | (refine z10 fun K hK => ?_; simp (maxSteps := 4000000) only [go_sem]; refine hK _ ?_; clear hK K))
  refine z15 (fun (g : Nat) => [(8, .d (.i (g : Int)))]) (fun g => [(25, some (.arr 3 1 (intRows (outO O g))))]) (fun g => g ≤ O.length) (fun g => O.length - g) 0 ?_ (Nat.zero_le _) ?_
  · simp (maxSteps := 4000000) only [go_sem]
    refine z13 [] ?_ ?_ rfl rfl <;> simp [lessT, lessM, lessB, AV.less]
    all_goals first | done | rfl | trace_state
  · intro g hg'
    have hogl := z965 hg'
    simp (maxSteps := 4000000) only [go_sem]
    repeat (first | refine nx ?_ | (refine z10 fun K hK => ?_; simp (maxSteps := 4000000) only [go_sem, z19, hogl]; refine hK _ ?_; clear hK K))
    refine z14 rfl (fun hb => ?_) (fun hb => ?_)
    · have hlt : g < O.length := by simpa using hb
      have hw : IntKind.i64.wrap ((g : Int) + 1) = ((g + 1 : Nat) : Int) := by rw [z16 (by omega)]; simp
      have hog := hom g
      have hos := z964 hlt
      obtain ⟨U, hU⟩ : ∃ U, U = outO O g := ⟨_, rfl⟩
      rw [← hU] at hogl hos ⊢
      repeat (first | refine nx ?_ | (refine z10 fun K hK => ?_; simp (maxSteps := 4000000) only [go_sem]; refine hK _ ?_; clear hK K))
      refine z15 (fun (q : Int × Int) => [(9, .d (.i q.1)), (10, .d (.i q.2))]) (fun _ => []) (fun q => 0 ≤ q.1 ∧ q.1 ≤ getI O (g : Int) ∧ getI O (g : Int) ≤ q.2 ∧ q.2 ≤ 9000000) (fun q => (q.2 - q.1).toNat) (0, 9000000) ?_ ⟨Int.le_refl _, hog.1, hog.2, Int.le_refl _⟩ ?_
      · simp (maxSteps := 4000000) only [go_sem]
        refine z13 [] ?_ ?_ rfl rfl <;> simp [lessT, lessM, lessB, AV.less]
        all_goals first | done | rfl | trace_state
      · rintro ⟨lo, hi⟩ ⟨l1, l2, l3, l4⟩
        dsimp only at l1 l2 l3 l4
        simp (maxSteps := 4000000) only [go_sem]
        repeat (first | refine nx ?_ | (refine z10 fun K hK => ?_; simp (maxSteps := 4000000) only [go_sem]; refine hK _ ?_; clear hK K))
        refine z14 rfl (fun hb2 => ?_) (fun hb2 => ?_)
        · have hlh : lo < hi := by simpa using hb2
          have w1 : IntKind.i64.wrap (lo + hi) = lo + hi := z16 (by omega)
          have w2 : (lo + hi).tdiv 2 = (lo + hi) / 2 := Int.tdiv_eq_ediv_of_nonneg (by omega)
          have w3 : IntKind.i64.wrap ((lo + hi) / 2) = (lo + hi) / 2 := z16 (by omega)
          obtain ⟨m, hm⟩ : ∃ m, m = (lo + hi) / 2 := ⟨_, rfl⟩
          have w4 : IntKind.i64.wrap (m + 1) = m + 1 := z16 (by omega)
          rw [← hm] at w3
          repeat (first | refine nx ?_ | (refine z10 fun K hK => ?_; simp (maxSteps := 4000000) only [go_sem, w1, w2, ← hm, w3, hmk, hrep2, hogl, hol, z19]; refine hK _ ?_; clear hK K))
          refine z15 (fun (j : Nat) => [(13, .d (.i (j : Int)))]) (fun j => [(41, some (.arr 3 1 (intRows (muchL k.allerg.length j))))]) (fun j => j ≤ k.allerg.length) (fun j => k.allerg.length - j) 0 ?_ (Nat.zero_le _) ?_
          · simp (maxSteps := 4000000) only [go_sem]
            refine z13 [] ?_ ?_ rfl rfl <;> simp [lessT, lessM, lessB, AV.less]
            all_goals first | done | rfl | trace_state
          · intro j hj
            have hml := z324 hj
            simp (maxSteps := 4000000) only [go_sem]
            repeat (first | refine nx ?_ | (refine z10 fun K hK => ?_; simp (maxSteps := 4000000) only [go_sem, z19, hml]; refine hK _ ?_; clear hK K))
            refine z14 rfl (fun hb3 => ?_) (fun hb3 => ?_)
            · have hltj : j < k.allerg.length := by simpa using hb3
              have hwj : IntKind.i64.wrap ((j : Int) + 1) = ((j + 1 : Nat) : Int) := by rw [z16 (by omega)]; simp
              have hnj : ¬ ((j : Int) < 0) := by omega
              have su : (intRows (muchL k.allerg.length j)).set j [.i 9000000] = intRows (muchL k.allerg.length (j + 1)) := by rw [← z901 hltj]; exact z43 _ j _
              obtain ⟨V, hV⟩ : ∃ V, V = muchL k.allerg.length j := ⟨_, rfl⟩
              rw [← hV] at su hml ⊢
              have gV := z21 (l := V) (i := j) (by omega)
              repeat (first | refine nx ?_ | (refine z10 fun K hK => ?_; simp (maxSteps := 4000000) only [go_sem, hnj, hltj, hml, gV, z19, su, hwj]; refine hK _ ?_; clear hK K))
              refine ⟨rfl, j + 1, ?_, hltj, by omega⟩
              refine z13 [] ?_ ?_ rfl rfl <;> simp [lessT, lessM, lessB, AV.less]
              all_goals first | done | rfl | trace_state
            · have he : j = k.allerg.length := by (have : ¬ j < k.allerg.length := by simpa using hb3); omega
              subst he
              have hvl := z324 (Nat.le_refl k.allerg.length)
              have hgl : g < k.allerg.length := by omega
              obtain ⟨Y, hY⟩ : ∃ Y, Y = (muchL k.allerg.length k.allerg.length).set g m := ⟨_, rfl⟩
              have hYl : Y.length = k.allerg.length := by rw [hY, List.length_set, hvl]
              have hYg : ∀ i : Nat, getI Y (i : Int) = if i = g then m else if i < k.allerg.length then 9000000 else 0 := fun i => by rw [hY]; exact z975 i hgl
              have hYo : ∀ i : Nat, 0 ≤ getI Y (i : Int) ∧ getI Y (i : Int) ≤ 9000000 := fun i => by
                rw [hYg]
                split
                · omega
                · split <;> omega
              have hYle : LeL O Y ↔ getI O (g : Int) ≤ m := by
                constructor
                · intro h
                  have := h g
                  rwa [hYg, if_pos rfl] at this
                · intro h i
                  rw [hYg]
                  split
                  · rename_i e; subst e; exact h
                  · split
                    · exact (hom i).2
                    · rw [z754 (by omega)]
                      exact Int.le_refl _
              obtain ⟨W, β, hβ, h29⟩ := hsm Y hYl hYo
              rw [hYle] at hβ
              have h31 := z1151 k Y hs (by omega) (by omega)
              have su : (intRows (muchL k.allerg.length k.allerg.length)).set g [.i m] = intRows Y := by rw [hY]; exact z43 _ g _
              have gV := z21 (l := muchL k.allerg.length k.allerg.length) (i := g) (by omega)
              have hng : ¬ ((g : Int) < 0) := by omega
              obtain ⟨V, hV⟩ : ∃ V, V = muchL k.allerg.length k.allerg.length := ⟨_, rfl⟩
              rw [← hV] at su gV hvl ⊢
              rw [Kitchen.cells] at h29 h31
              repeat (first | refine nx ?_ | (refine z10 fun K hK => ?_; simp (maxSteps := 4000000) only [go_sem, hng, hgl, hvl, gV, z19, su]; refine hK _ ?_; clear hK K))
              refine z10 fun K hK => ?_
              simp (maxSteps := 4000000) only [go_sem]
              refine ⟨_, .given (hf := h31) (hd := rfl) (ha := rfl), ?_⟩
              simp (maxSteps := 4000000) only [go_sem]
              refine ⟨_, .given (hf := h29) (hd := rfl) (ha := rfl), ?_⟩
              simp (maxSteps := 4000000) only [go_sem]
              refine hK _ ?_
              clear hK K
              cases β with
              | true =>
                have hge := hβ.1 rfl
                repeat (first | refine z12 rfl ?_ | refine z11 rfl ?_ | refine nx ?_ | (refine z10 fun K hK => ?_; simp (maxSteps := 4000000) only [go_sem]; refine hK _ ?_; clear hK K))
                refine ⟨rfl, (lo, m), ?_, ⟨l1, l2, hge, by dsimp only; omega⟩, by dsimp only; omega⟩
                refine z13 [] ?_ ?_ rfl rfl <;> simp [lessT, lessM, lessB, AV.less]
                all_goals first | done | rfl | exact ⟨by rw [hol], by rw [hol]⟩ | trace_state
              | false =>
                have hge : ¬ getI O (g : Int) ≤ m := fun h => by
                  have := hβ.2 h
                  cases this
                repeat (first | refine z12 rfl ?_ | refine z11 rfl ?_ | refine nx ?_ | (refine z10 fun K hK => ?_; simp (maxSteps := 4000000) only [go_sem, w4]; refine hK _ ?_; clear hK K))
                refine ⟨rfl, (m + 1, hi), ?_, ⟨by dsimp only; omega, by dsimp only; omega, l3, l4⟩, by dsimp only; omega⟩
                refine z13 [] ?_ ?_ rfl rfl <;> simp [lessT, lessM, lessB, AV.less]
                all_goals first | done | rfl | exact ⟨by rw [hol], by rw [hol]⟩ | trace_state
        · have hlh : ¬ lo < hi := by simpa using hb2
          have he : lo = getI O (g : Int) := by omega
          have hng : ¬ ((g : Int) < 0) := by omega
          have gU := z21 (l := U) (i := g) (by omega)
          have su : (intRows U).set g [.i lo] = intRows (outO O (g + 1)) := by rw [he, ← hos]; exact z43 U g _
          repeat (first | refine nx ?_ | (refine z10 fun K hK => ?_; simp (maxSteps := 4000000) only [go_sem, hng, hlt, hogl, gU, z19, su, hw]; refine hK _ ?_; clear hK K))
          refine ⟨rfl, g + 1, ?_, hlt, by omega⟩
          refine z13 [] ?_ ?_ rfl rfl <;> simp [lessT, lessM, lessB, AV.less]
          all_goals first | done | rfl | trace_state
    · have he : g = O.length := by (have : ¬ g < O.length := by simpa using hb); omega
      subst he
      have hoe : outO O O.length = O := by simp [outO]
      rw [hoe]
      repeat (first | refine nx ?_ | (refine z10 fun K hK => ?_; simp (maxSteps := 4000000) only [go_sem]; refine hK _ ?_; clear hK K))
      simp (maxSteps := 4000000) only [go_sem]
end Go.Ab
namespace Go.Ab
open Go.RowKit Go.Proofs
set_option maxHeartbeats 16000000
set_option maxRecDepth 20000
attribute [local irreducible] WalkL Walk
theorem z746 {l : List (List Diners)} : ∀ {n i : Nat}, i < n → ((l.getD i []).length : Int) ≤ maxTo l n
  | n + 1, i, h => by
    rw [maxTo]
    by_cases e : i = n
    · subst e; omega
    · have := z746 (l := l) (n := n) (i := i) (by omega)
      omega
theorem z1068 {k : Kitchen} (h : far7 k = false) (h0 : kitE k = 0) : Few k := by
  simp only [far7, farK2, Bool.or_eq_false_iff, Bool.and_eq_false_iff, h0, beq_self_eq_true, decide_eq_false_iff_not] at h
  obtain ⟨_, _, _, h⟩ := h
  rcases h with h | ⟨h1, h2, h3⟩
  · cases h
  · refine ⟨by omega, by omega, fun d hd => ?_⟩
    obtain ⟨i, hi⟩ := List.mem_iff_getElem?.1 hd
    have hlt := (List.getElem?_eq_some_iff.1 hi).1
    have := z746 (l := k.days) hlt
    rw [List.getD_eq_getElem?_getD, hi, Option.getD_some] at this
    omega
theorem z823 {k : Kitchen} : (planK k).1.length < 2 ^ 30 ∧ ∀ r ∈ (planK k).1, r.length < 2 ^ 30 := by
  unfold planK
  by_cases h0 : kitE k = 0
  · rw [if_pos h0]
    have hg : KitGood k := z142 (z136.1 h0)
    split
    · exact ⟨Nat.two_pow_pos 30, fun r h => by cases h⟩
    · dsimp only
      have := hg.days
      exact ⟨by rw [z59]; omega, z888 hg⟩
  · rw [if_neg h0]
    exact ⟨Nat.two_pow_pos 30, fun r h => by cases h⟩
theorem zf3 (k : Kitchen) (M : List (List Int)) (hs : KitSmall k) (hM : M.length < 2 ^ 30) (hMr : ∀ r ∈ M, r.length < 2 ^ 30) : Fn Try.prog 3 [.agg k.cells, .sl (listRows M)] (.bool true) := by
  have h11 := z1160 k hs
  have h13 := z1158
  have h12 := z1159 M hM
  cases q1 : far7 k with
  | true =>
    rw [q1] at h11
    rw [Kitchen.cells] at h11 ⊢
    refine z18 76 Try.call3 Try.func3 rfl (by decide) fun J => ?_
    simp (maxSteps := 4000000) only [go_sem, St.start, Try.ntmps3, Try.results3]
    repeat (first | refine z12 rfl ?_ | refine z11 rfl ?_ | refine nx ?_ | (refine z10 fun K hK => ?_; simp (maxSteps := 4000000) only [go_sem]; (repeat (first | (refine ⟨_, .lent (hf := h11) (hd := rfl) (hr := rfl), ?_⟩; simp (maxSteps := 4000000) only [go_sem]) | (refine ⟨_, .lent (hf := h13) (hd := rfl) (hr := rfl), ?_⟩; simp (maxSteps := 4000000) only [go_sem]) | (refine ⟨_, .given (hf := h11) (hd := rfl) (ha := rfl), ?_⟩; simp (maxSteps := 4000000) only [go_sem]) | (refine ⟨_, .given (hf := h13) (hd := rfl) (ha := rfl), ?_⟩; simp (maxSteps := 4000000) only [go_sem]))); refine hK _ ?_; clear hK K))
    simp (maxSteps := 4000000) only [go_sem]
  | false =>
  rw [q1] at h11
  cases q2 : farRows M with
  | true =>
    rw [q2] at h12
    rw [Kitchen.cells] at h11 ⊢
    refine z18 76 Try.call3 Try.func3 rfl (by decide) fun J => ?_
    simp (maxSteps := 4000000) only [go_sem, St.start, Try.ntmps3, Try.results3]
    repeat (first | refine z12 rfl ?_ | refine z11 rfl ?_ | refine nx ?_ | (refine z10 fun K hK => ?_; simp (maxSteps := 4000000) only [go_sem]; (repeat (first | (refine ⟨_, .lent (hf := h11) (hd := rfl) (hr := rfl), ?_⟩; simp (maxSteps := 4000000) only [go_sem]) | (refine ⟨_, .lent (hf := h12) (hd := rfl) (hr := rfl), ?_⟩; simp (maxSteps := 4000000) only [go_sem]) | (refine ⟨_, .lent (hf := h13) (hd := rfl) (hr := rfl), ?_⟩; simp (maxSteps := 4000000) only [go_sem]) | (refine ⟨_, .given (hf := h11) (hd := rfl) (ha := rfl), ?_⟩; simp (maxSteps := 4000000) only [go_sem]) | (refine ⟨_, .given (hf := h12) (hd := rfl) (ha := rfl), ?_⟩; simp (maxSteps := 4000000) only [go_sem]) | (refine ⟨_, .given (hf := h13) (hd := rfl) (ha := rfl), ?_⟩; simp (maxSteps := 4000000) only [go_sem]))); refine hK _ ?_; clear hK K))
    simp (maxSteps := 4000000) only [go_sem]
  | false =>
  rw [q2] at h12
  have h14 := z1157 k hs
  have h15 := z1109 k hs
  have h16 := z1156 k hs (z1068 q1)
  have h18 := z1155 M hM hMr
  have h17 := z1108 k M hs hM hMr
  have h19 := z1154 k M hs hM hMr
  obtain ⟨p1, p2⟩ := z823 (k := k)
  obtain ⟨⟨P, w, e⟩, hP⟩ : ∃ P, P = planK k := ⟨_, rfl⟩
  rw [← hP] at h15 h16 p1 p2
  dsimp only at h15 h16 p1 p2
  obtain ⟨X, x, hX, hXl⟩ : ∃ (X : List Int) (x : Int), (if openK k M = 0 then [DV.sl (intRows (orderK k M)), .i 0] else [.sl [], .i (openK k M)]) = [.sl (intRows X), .i x] ∧ X.length < 2 ^ 30 := by
    by_cases h0 : openK k M = 0
    · rw [if_pos h0]
      obtain ⟨hg, hsh⟩ := z321 h0
      have := z558 hg hsh
      have := hg.goods
      exact ⟨_, _, rfl, by omega⟩
    · rw [if_neg h0]
      exact ⟨[], _, rfl, Nat.two_pow_pos 30⟩
  rw [hX] at h17 h19
  have h20 := z1107 P P p1 p2
  have h21 := z1074 X X hXl
  rw [decide_eq_true rfl] at h20 h21
  have n1 : (w == w) = true := by simp
  have n2 : (e == e) = true := by simp
  have n3 : (x == x) = true := by simp
  rw [Kitchen.cells] at h11 h14 h15 h16 h17 h19 ⊢
  refine z18 76 Try.call3 Try.func3 rfl (by decide) fun J => ?_
  simp (maxSteps := 4000000) only [go_sem, St.start, Try.ntmps3, Try.results3]
  repeat (first | refine z12 rfl ?_ | refine z11 rfl ?_ | refine nx ?_ | (refine z10 fun K hK => ?_; simp (maxSteps := 4000000) only [go_sem]; (repeat (first | (refine ⟨_, .lent (hf := h11) (hd := rfl) (hr := rfl), ?_⟩; simp (maxSteps := 4000000) only [go_sem]) | (refine ⟨_, .lent (hf := h12) (hd := rfl) (hr := rfl), ?_⟩; simp (maxSteps := 4000000) only [go_sem]) | (refine ⟨_, .lent (hf := h14) (hd := rfl) (hr := rfl), ?_⟩; simp (maxSteps := 4000000) only [go_sem]) | (refine ⟨_, .lent (hf := h15) (hd := rfl) (hr := rfl), ?_⟩; simp (maxSteps := 4000000) only [go_sem]) | (refine ⟨_, .lent (hf := h16) (hd := rfl) (hr := rfl), ?_⟩; simp (maxSteps := 4000000) only [go_sem]) | (refine ⟨_, .given (hf := h11) (hd := rfl) (ha := rfl), ?_⟩; simp (maxSteps := 4000000) only [go_sem]) | (refine ⟨_, .given (hf := h12) (hd := rfl) (ha := rfl), ?_⟩; simp (maxSteps := 4000000) only [go_sem]) | (refine ⟨_, .given (hf := h14) (hd := rfl) (ha := rfl), ?_⟩; simp (maxSteps := 4000000) only [go_sem]) | (refine ⟨_, .given (hf := h15) (hd := rfl) (ha := rfl), ?_⟩; simp (maxSteps := 4000000) only [go_sem]) | (refine ⟨_, .given (hf := h16) (hd := rfl) (ha := rfl), ?_⟩; simp (maxSteps := 4000000) only [go_sem]))); refine hK _ ?_; clear hK K))
  repeat refine nx ?_
  refine z17 (by kernel_rfl) (by kernel_rfl) fun K hK => ?_
  simp (maxSteps := 4000000) only [go_sem]
  refine ⟨_, .fn (hf := h18) (hd := rfl) (hr := .inr rfl), ?_⟩
  simp (maxSteps := 4000000) only [go_sem]
  refine ⟨_, .fn (hf := h17) (hd := rfl) (hr := .inr rfl), ?_⟩
  simp (maxSteps := 4000000) only [go_sem]
  refine ⟨by kernel_rfl, hK _ ?_⟩
  clear hK K
  repeat (first | refine z12 rfl ?_ | refine z11 rfl ?_ | refine nx ?_ | (refine z10 fun K hK => ?_; simp (maxSteps := 4000000) only [go_sem, n1, n2, n3]; (repeat (first | (refine ⟨_, .lent (hf := h19) (hd := rfl) (hr := rfl), ?_⟩; simp (maxSteps := 4000000) only [go_sem, n1, n2, n3]) | (refine ⟨_, .lent (hf := h20) (hd := rfl) (hr := rfl), ?_⟩; simp (maxSteps := 4000000) only [go_sem, n1, n2, n3]) | (refine ⟨_, .lent (hf := h21) (hd := rfl) (hr := rfl), ?_⟩; simp (maxSteps := 4000000) only [go_sem, n1, n2, n3]) | (refine ⟨_, .lent (hf := h13) (hd := rfl) (hr := rfl), ?_⟩; simp (maxSteps := 4000000) only [go_sem, n1, n2, n3]) | (refine ⟨_, .given (hf := h19) (hd := rfl) (ha := rfl), ?_⟩; simp (maxSteps := 4000000) only [go_sem, n1, n2, n3]) | (refine ⟨_, .given (hf := h20) (hd := rfl) (ha := rfl), ?_⟩; simp (maxSteps := 4000000) only [go_sem, n1, n2, n3]) | (refine ⟨_, .given (hf := h21) (hd := rfl) (ha := rfl), ?_⟩; simp (maxSteps := 4000000) only [go_sem, n1, n2, n3]) | (refine ⟨_, .given (hf := h13) (hd := rfl) (ha := rfl), ?_⟩; simp (maxSteps := 4000000) only [go_sem, n1, n2, n3]))); refine hK _ ?_; clear hK K))
  simp (maxSteps := 4000000) only [go_sem]
end Go.Ab
