/- A walk engine over abstract states, and the contracts of the functions that the statement reaches: part 6. -/
import Derived.Test.YtgjnckiifffneaaWe
set_option linter.unusedVariables false
set_option linter.unusedSimpArgs false
set_option linter.unnecessarySimpa false
namespace Go.Ab
open Go.RowKit Go.Proofs
def erow : List Int → List Int → Option Bool
  | x :: a, y :: b => if x = y then erow a b else some (decide (x < y))
  | _, _ => none
def earlierB : List (List Int) → List (List Int) → Bool
  | r :: M, p :: P => (erow r p).getD (earlierB M P)
  | _, _ => false
theorem z560 : ∀ a : List Int, erow a a = none
  | [] => rfl
  | x :: a => by rw [erow, if_pos rfl, z560 a]
theorem z559 : ∀ {a b : List Int}, erow a b = some true → erow b a = some false
  | x :: a, y :: b, h => by
    rw [erow] at h ⊢
    by_cases e : x = y
    · rw [if_pos e] at h
      rw [if_pos e.symm]
      exact z559 h
    · rw [if_neg e] at h
      rw [if_neg (fun c => e c.symm)]
      have : x < y := by simpa using h
      simp only [Option.some.injEq, decide_eq_false_iff_not]
      omega
  | [], _, h => by cases h
  | _ :: _, [], h => by cases h
theorem z701 {x y : Int} (h : x < y) (a b : List Int) : ∀ p : List Int, erow (p ++ x :: a) (p ++ y :: b) = some true
  | [] => by rw [List.nil_append, List.nil_append, erow, if_neg (by omega), decide_eq_true h]
  | z :: p => by rw [List.cons_append, List.cons_append, erow, if_pos rfl, z701 h a b p]
def ERow (a b : List Int) : Prop := erow a b = some true
theorem z340 : ∀ (SS : List (List Int)) (pre : List Int), (∀ S ∈ SS, S.Pairwise (· < ·)) → (addL SS pre).Pairwise ERow
  | [], pre, _ => by rw [addL]; exact List.pairwise_singleton _ _
  | S :: gs, pre, h => by
    rw [addL, List.pairwise_flatMap]
    refine ⟨fun d _ => z340 gs _ fun T hT => h T (by simp [hT]), (h S (by simp)).imp fun {d e} hde x hx y hy => ?_⟩
    obtain ⟨t, rfl, _⟩ := z175.1 hx
    obtain ⟨u, rfl, _⟩ := z175.1 hy
    rw [ERow, List.append_assoc, List.append_assoc]
    exact z701 hde t u pre
theorem z500 (k : Kitchen) (no : Int) : (suitL k no).Pairwise (· < ·) := by
  rw [suitL, suitTo7, List.pairwise_map]
  exact (List.pairwise_lt_range.filter _).imp fun {a b} (h : a < b) => by omega
theorem z183 (k : Kitchen) (d : Nat) : (choicesL k d).Pairwise ERow := z340 _ _ fun S hS => by
  obtain ⟨g, _, rfl⟩ := List.mem_map.1 hS
  exact z500 k _
theorem z928 {k : Kitchen} {n no : Int} (h0 : 0 ≤ n) (h1 : n < k.dishes.length) (hs : suitsB k n no = true) : n ∈ suitL k no := by
  obtain ⟨m, rfl⟩ : ∃ m : Nat, n = m := ⟨n.toNat, by omega⟩
  exact List.mem_map.2 ⟨m, List.mem_filter.2 ⟨List.mem_range.2 (by omega), hs⟩, rfl⟩
theorem z815 {k : Kitchen} : ∀ {r : List Int} {x : List Diners}, rowOk (menuB k) r x = true → Pick (x.map fun g => suitL k g.no) r
  | [], [], _ => trivial
  | n :: r, g :: x, h => by
    rw [rowOk, Bool.and_eq_true, menuB, Bool.and_eq_true] at h
    have := z43.1 h.1.1
    exact ⟨z928 this.1 (by omega) h.1.2, z815 h.2⟩
  | [], _ :: _, h => by cases h
  | _ :: _, [], h => by cases h
theorem z379 {k : Kitchen} {M : List (List Int)} (hM : shapedB (menuB k) M k.days = true) {i : Nat} {r : List Int} (hr : M[i]? = some r) : r ∈ choicesL k i := by
  obtain ⟨x, hx, ho⟩ := z90 hM hr
  have e : k.days.getD i [] = x := by rw [List.getD_eq_getElem?_getD, hx]; rfl
  exact z175.2 ⟨r, rfl, by rw [suitDay, e]; exact z815 ho⟩
theorem z575 {k : Kitchen} {d : Nat} {c : List Int × Int} {rec : List Int → PlanV} : ∀ (N : List (List Int)) (a : PlanV), (N.foldl (bestSN k d c rec) a).1 ≤ a.1 ∧ ((N.foldl (bestSN k d c rec) a).1 = a.1 → N.foldl (bestSN k d c rec) a = a)
  | [], a => ⟨Int.le_refl _, fun _ => rfl⟩
  | m :: N, a => by
    rw [List.foldl_cons]
    obtain ⟨h1, h2⟩ := z575 (k := k) (d := d) (c := c) (rec := rec) N (bestSN k d c rec a m)
    have h3 : bestSN k d c rec a m = a ∨ (bestSN k d c rec a m).1 < a.1 := by
      unfold bestSN
      split
      · exact .inl rfl
      · split
        · rename_i h; exact .inr h
        · exact .inl rfl
    rcases h3 with h3 | h3
    · rw [h3] at h1 h2 ⊢
      exact ⟨h1, h2⟩
    · exact ⟨by omega, fun h => by omega⟩
theorem z166 {k : Kitchen} {d : Nat} {c : List Int × Int} {rec : List Int → PlanV} {m l' : List Int} (ht : takeD k d m c.1 = some l') : ∀ (N : List (List Int)) (a : PlanV), N.Pairwise ERow → m ∈ N → c.2 + (rec l').1 < a.1 →
    (N.foldl (bestSN k d c rec) a).1 ≤ c.2 + (rec l').1 ∧ ((N.foldl (bestSN k d c rec) a).1 = c.2 + (rec l').1 → (N.foldl (bestSN k d c rec) a).2 = m ∨ ERow (N.foldl (bestSN k d c rec) a).2 m)
  | [], a, _, hm, _ => by cases hm
  | x :: N, a, hp, hm, hlt => by
    rw [List.pairwise_cons] at hp
    rw [List.foldl_cons]
    obtain ⟨h1, h2⟩ := z575 (k := k) (d := d) (c := c) (rec := rec) N (bestSN k d c rec a x)
    by_cases hx : m = x
    · subst hx
      have e : bestSN k d c rec a m = (c.2 + (rec l').1, m) := by rw [bestSN, ht]; dsimp only; rw [if_pos hlt]
      rw [e] at h1 h2 ⊢
      exact ⟨h1, fun h => .inl (by rw [h2 h])⟩
    · have hmN : m ∈ N := by simpa [hx] using hm
      by_cases hl : c.2 + (rec l').1 < (bestSN k d c rec a x).1
      · exact z166 ht N _ hp.2 hmN hl
      · have h3 : (bestSN k d c rec a x).2 = x := by
          unfold bestSN at hl ⊢
          split
          · rename_i e; rw [e] at hl; exact absurd hlt hl
          · rename_i e
            rw [e] at hl
            dsimp only at hl
            split
            · rfl
            · rename_i q; rw [if_neg q] at hl; exact absurd hlt hl
        refine ⟨by omega, fun h => .inr ?_⟩
        rw [h2 (by omega), h3]
        exact hp.1 m hmN
def runF (k : Kitchen) : Nat → List Int → List (List Int) → Option Int
  | _, _, [] => some 0
  | d, l, m :: ms => match takeD k d m (clr0 k d l).1 with
    | none => none
    | some l' => (runF k (d + 1) l' ms).map ((clr0 k d l).2 + ·)
theorem z568 (k : Kitchen) (day : Int) (l : List Int) (w : Int) : ∀ j, (clrTo k day l w j).2 = w + (clrTo k day l 0 j).2
  | 0 => by simp [clrTo]
  | j + 1 => by
    have ih := z568 k day l w j
    have e := z330 k day l w j
    rw [clrTo, clrTo]
    split
    · dsimp only
      rw [e]
      omega
    · exact ih
theorem z439 (k : Kitchen) (M : List (List Int)) : ∀ (c i : Nat) (l : List Int) (w : Int), i + c = M.length → runSt k M (hiC k) i = some (l, w) →
    runF k i l (M.drop i) = (runSt k M (hiC k) M.length).map fun a => a.2 - w
  | 0, i, l, w, hc, h => by
    have e : i = M.length := by omega
    subst e
    rw [List.drop_length, runF, h]
    simp
  | c + 1, i, l, w, hc, h => by
    obtain ⟨r, hr⟩ : ∃ r, M[i]? = some r := ⟨_, List.getElem?_eq_getElem (by omega)⟩
    have hgd : M.getD i [] = r := by rw [List.getD_eq_getElem?_getD, hr]; rfl
    have hn : needD k M (hiC k) i = needL k r (hiN k i) := by rw [needD, hgd]; rfl
    have hcl : (clrD k i (l, w)).1 = (clr0 k i l).1 := z330 k _ l w _
    have hcw : (clrD k i (l, w)).2 = w + (clr0 k i l).2 := z568 k _ l w _
    have hst : runSt k M (hiC k) (i + 1) = (takeD k i r (clr0 k i l).1).map fun x => (x, w + (clr0 k i l).2) := by
      rw [runSt, h]
      dsimp only
      rw [hn, hcl, hcw, takeD]
    rw [z33 hr, runF]
    cases ht : takeD k i r (clr0 k i l).1 with
    | none =>
      rw [ht] at hst
      rw [z235 hst (by omega)]
      rfl
    | some l' =>
      rw [ht] at hst
      dsimp only
      rw [Option.map_some] at hst
      rw [z439 k M c (i + 1) l' (w + (clr0 k i l).2) (by omega) hst]
      cases runSt k M (hiC k) M.length with
      | none => rfl
      | some a =>
        simp only [Option.map_some, Option.some.injEq]
        omega
theorem z381 {k : Kitchen} {i : Nat} (hi : i < k.days.length) : (planL k k.days.length).2.drop i = (bestN k (k.days.length - i) (planL k i).1).2 :: (planL k k.days.length).2.drop (i + 1) := z33 (z172 k i _ hi)
theorem z301 {k : Kitchen} (hg : KitGood k) (h : wasteK k < 1099511627776) : ∀ (c i : Nat), i + c = k.days.length → runF k i (planL k i).1 ((planL k k.days.length).2.drop i) = some (bestN k c (planL k i).1).1
  | 0, i, hc => by
    rw [List.drop_of_length_le (by rw [z65]; omega), runF, bestN]
  | c + 1, i, hc => by
    have hi : i < k.days.length := by omega
    obtain ⟨p1, p2⟩ := z138 hg i (by omega)
    obtain ⟨m, l', h1, h2, h3, h4⟩ := z222 hg hi p2 p1 (z127 hg h i (by omega))
    have ec : k.days.length - i = c + 1 := by omega
    have ec2 : k.days.length - (i + 1) = c := by omega
    have e : (planL k (i + 1)).1 = l' := by
      rw [z209, h3]
      dsimp only
      rw [h2]
      rfl
    have ih := z301 hg h c (i + 1) (by omega)
    rw [e] at ih
    rw [z381 hi, runF, h3]
    dsimp only
    rw [h2]
    dsimp only
    rw [ih]
    rw [ec, ec2] at h3
    rw [h3]
    rfl
theorem z191 {k : Kitchen} (hg : KitGood k) {M : List (List Int)} (hM : shapedB (menuB k) M k.days = true) : ∀ (c i : Nat) (l : List Int) (n : Int), i + c = k.days.length → l.length = k.batches.length → AmtOk l →
    runF k i l (M.drop i) = some n → n < 1099511627776 → (bestN k c l).1 ≤ n
  | 0, i, l, n, hc, hl, ha, h, hn => by
    rw [List.drop_of_length_le (by rw [z39 hM]; omega), runF] at h
    cases h
    exact Int.le_refl _
  | c + 1, i, l, n, hc, hl, ha, h, hn => by
    have hi : i < k.days.length := by omega
    have hMl := z39 hM
    obtain ⟨r, hr⟩ : ∃ r, M[i]? = some r := ⟨_, List.getElem?_eq_getElem (by omega)⟩
    have hrc := z379 hM hr
    obtain ⟨c1, c2, c3, c4⟩ := z249 hg (d := i) hl ha
    rw [z33 hr, runF] at h
    cases ht : takeD k i r (clr0 k i l).1 with
    | none => rw [ht] at h; cases h
    | some l' =>
      rw [ht] at h
      dsimp only at h
      obtain ⟨n', hn', rfl⟩ := Option.map_eq_some_iff.1 h
      obtain ⟨t1, t2⟩ := z204 hg hi (z238 hg hi hrc).2 c1 ht
      have ih := z191 hg hM c (i + 1) l' n' (by omega) (by omega) t1 hn' (by omega)
      have e : i = k.days.length - (c + 1) := by omega
      have hN : bestN k (c + 1) l = (choicesL k i).foldl (bestSN k i (clr0 k i l) (bestN k c)) (1099511627776, []) := by rw [bestN, ← e]; rfl
      have := (z166 (rec := bestN k c) ht (choicesL k i) (1099511627776, []) (z183 k i) hrc (by dsimp only; omega)).1
      rw [hN]
      omega
theorem z302 {k : Kitchen} (hg : KitGood k) (h : wasteK k < 1099511627776) {M : List (List Int)} (hM : shapedB (menuB k) M k.days = true) : ∀ (c i : Nat), i + c = k.days.length →
    runF k i (planL k i).1 (M.drop i) = some (bestN k c (planL k i).1).1 → earlierB (M.drop i) ((planL k k.days.length).2.drop i) = false
  | 0, i, hc, hr => by
    rw [List.drop_of_length_le (by rw [z39 hM]; omega)]
    rfl
  | c + 1, i, hc, hf => by
    have hi : i < k.days.length := by omega
    have hMl := z39 hM
    obtain ⟨p1, p2⟩ := z138 hg i (by omega)
    obtain ⟨m, l', h1, h2, h3, h4⟩ := z222 hg hi p2 p1 (z127 hg h i (by omega))
    have ec : k.days.length - i = c + 1 := by omega
    have ec2 : k.days.length - (i + 1) = c := by omega
    have e1 : (planL k (i + 1)).1 = l' := by
      rw [z209, h3]
      dsimp only
      rw [h2]
      rfl
    obtain ⟨r, hr⟩ : ∃ r, M[i]? = some r := ⟨_, List.getElem?_eq_getElem (by omega)⟩
    have hrc := z379 hM hr
    obtain ⟨c1, c2, c3, c4⟩ := z249 hg (d := i) p2 p1
    rw [z381 hi, h3, z33 hr, earlierB]
    rw [z33 hr, runF] at hf
    rw [ec, ec2] at h3
    rw [ec2] at h4
    dsimp only
    cases ht : takeD k i r (clr0 k i (planL k i).1).1 with
    | none => rw [ht] at hf; cases hf
    | some l2 =>
      rw [ht] at hf
      dsimp only at hf
      obtain ⟨n', hn', he⟩ := Option.map_eq_some_iff.1 hf
      rw [h3] at he
      dsimp only at he
      have hn2 : n' = (bestN k c l').1 := by omega
      by_cases hmr : r = m
      · subst hmr
        rw [h2] at ht
        cases ht
        rw [z560, Option.getD_none]
        refine z302 hg h hM c (i + 1) (by omega) ?_
        rw [e1, hn', hn2]
      · obtain ⟨t1, t2⟩ := z204 hg hi (z238 hg hi hrc).2 c1 ht
        have hle := z191 hg hM c (i + 1) l2 n' (by omega) (by omega) t1 hn' (by omega)
        have e : i = k.days.length - (c + 1) := by omega
        have hN : bestN k (c + 1) (planL k i).1 = (choicesL k i).foldl (bestSN k i (clr0 k i (planL k i).1) (bestN k c)) (1099511627776, []) := by rw [bestN, ← e]; rfl
        have hb : (bestN k (c + 1) (planL k i).1).1 < 1099511627776 := by have := z127 hg h i (by omega); rwa [ec] at this
        have h31 : (bestN k (c + 1) (planL k i).1).1 = (clr0 k i (planL k i).1).2 + (bestN k c l').1 := by rw [h3]
        obtain ⟨q1, q2⟩ := z166 (rec := bestN k c) ht (choicesL k i) (1099511627776, []) (z183 k i) hrc (by dsimp only; omega)
        rw [← hN] at q1 q2
        have q3 := q2 (by omega)
        rw [h3] at q3
        rcases q3 with q3 | q3
        · exact absurd q3.symm hmr
        · have := z559 q3
          dsimp only at this
          rw [this]
          rfl
theorem z895 {k : Kitchen} {M : List (List Int)} (hM : M.length = k.days.length) : mostK k M = k.days.length ↔ (runSt k M (hiC k) M.length).isSome = true := by
  constructor
  · intro h
    cases hr : runSt k M (hiC k) M.length with
    | some _ => rfl
    | none =>
      have h2 : lastD k M (hiC k) M.length = M.length := h.trans hM.symm
      cases hl : M.length with
      | zero => rw [hl] at hr; cases hr
      | succ d =>
        rw [hl] at hr h2
        rw [lastD, hr] at h2
        have := z450 k M (hiC k) d
        simp only [Option.isSome_none, Bool.false_eq_true, if_false] at h2
        omega
  · intro h
    rw [← hM]
    exact z109 h
theorem z260 {k : Kitchen} {M : List (List Int)} {a : List Int × Int} (h : runSt k M (hiC k) M.length = some a) : mostK k M = M.length ∧ (endSt k M (pickC k true)).2 = a.2 := by
  have hs : (runSt k M (hiC k) M.length).isSome = true := by rw [h]; rfl
  have hl : lastD k M (pickC k true) M.length = M.length := z109 hs
  refine ⟨z109 hs, ?_⟩
  have h2 : runSt k M (pickC k true) M.length = some a := h
  rw [endSt, hl, h2, if_neg (Nat.lt_irrefl _)]
  rfl
theorem z515 {k : Kitchen} (hg : KitGood k) (h : wasteK k < 1099511627776) : mostK k (planL k k.days.length).2 = k.days.length ∧ (endSt k (planL k k.days.length).2 (pickC k true)).2 = wasteK k := by
  have h1 := z301 hg h k.days.length 0 (by omega)
  have h2 := z439 k (planL k k.days.length).2 k.days.length 0 (amtK k) 0 (by rw [z65]; omega) rfl
  rw [List.drop_zero] at h1 h2
  change runF k 0 (amtK k) _ = some (wasteK k) at h1
  rw [h1] at h2
  cases hr : runSt k (planL k k.days.length).2 (hiC k) (planL k k.days.length).2.length with
  | none => rw [hr] at h2; cases h2
  | some a =>
    rw [hr] at h2
    simp only [Option.map_some, Option.some.injEq] at h2
    obtain ⟨q1, q2⟩ := z260 hr
    exact ⟨by rw [q1, z65], by rw [q2]; omega⟩
theorem z380 {k : Kitchen} (hg : KitGood k) {M : List (List Int)} (hM : shapedB (menuB k) M k.days = true) (h : mostK k M = k.days.length) :
    wasteK k < 1099511627776 ∧ wasteK k ≤ (endSt k M (pickC k true)).2 ∧ ((endSt k M (pickC k true)).2 = wasteK k → earlierB M (planL k k.days.length).2 = false) := by
  have hMl := z39 hM
  have hs := (z895 hMl).1 h
  obtain ⟨a, ha⟩ := Option.isSome_iff_exists.1 hs
  obtain ⟨q1, q2⟩ := z260 ha
  obtain ⟨r1, r2, r3, r4⟩ := z169 hg hM (z838 hg) M.length a (Nat.le_refl _) ha
  have hdy := hg.days
  have h2 := z439 k M M.length 0 (amtK k) 0 (by omega) rfl
  rw [List.drop_zero, ha] at h2
  simp only [Option.map_some, Int.sub_zero] at h2
  have hle := z191 hg hM k.days.length 0 (amtK k) a.2 (by omega) (z118 k) (z255 hg) (by rw [List.drop_zero]; exact h2) (by omega)
  have hw : wasteK k ≤ a.2 := hle
  refine ⟨by omega, by omega, fun he => ?_⟩
  have := z302 hg (by omega) hM k.days.length 0 (by omega) (by
    rw [List.drop_zero]
    change runF k 0 (amtK k) M = some (wasteK k)
    rw [h2, ← he, q2])
  rwa [List.drop_zero, List.drop_zero] at this
end Go.Ab
/- What a function makes of its own, told as a deep value. -/
namespace Go.Ab
open Go.RowKit
theorem FnG.deep {P : Program} {f : FuncId} {args : List DV} {r : AV} {m1 : List Blk} {d : DV} (h : FnG P f [] [] (args.map AV.d) r m1) (hr : reify (m1.map some) Ab.deep r = some d) : Fn P f args d :=
  ⟨h.enters, fun w own vs hb hh hd => (h.calls (ltU w.heap.size) w own (fun _ => none) vs hb (fun _ h => h)
      ⟨fun n b h => by simp at h, fun n h => by simp at h, fun n k b z l c z' l' c' h => by simp at h, fun n b z l c h => by simp at h⟩
      (hh.less fun b hb => hb.elim id fun ⟨_, _, _, _, h⟩ => by simp at h) (by simpa using hd.1) (fun i x v hx hv => by
        simp only [List.getElem?_map, Option.map_eq_some_iff] at hx
        obtain ⟨y, hy, rfl⟩ := hx
        refine .d ((hd.2 i y v hy hv).goes fun b o u h1 h2 => ⟨fun hc => h1 (hc.elim id fun ⟨_, _, _, _, h⟩ => by simp at h), h2⟩))).mono fun en w' hq => by
    obtain ⟨v, μ1, he, hv, hm, hk, _⟩ := hq
    exact ⟨v, he, z64 hm own (fun b hb => .inl hb) (fun _ => True) (fun n b z l c _ hμ => (hm.base n b z l c hμ).2.2) Ab.deep r v d hv hr (fun _ _ => trivial) (.inl fun _ _ _ _ _ _ => trivial), hk.keep.below.to⟩⟩
end Go.Ab
namespace Go.Ab
open Go.RowKit Go.Proofs
set_option maxHeartbeats 16000000
set_option maxRecDepth 20000
attribute [local irreducible] WalkL Walk
end Go.Ab
namespace Go.Ab
open Go.RowKit Go.Proofs
def sB (F : Batch → Int) : List Batch → Int
  | [] => 0
  | b :: l => F b + sB F l
def fB (g : Nat) (t : Int) (b : Batch) : Int := if b.good = (g : Int) ∧ t ≤ b.last then b.amount else 0
def upB (b : Batch) (a l : Int) : Batch := ⟨b.good, min 1000000 (b.amount + a), min 30 (b.last + l)⟩
end Go.Ab
namespace Go.Ab
open Go.RowKit Go.Proofs
set_option maxHeartbeats 16000000
set_option maxRecDepth 20000
attribute [local irreducible] WalkL Walk
end Go.Ab
namespace Go.Ab
open Go.RowKit Go.Proofs
set_option maxHeartbeats 16000000
set_option maxRecDepth 20000
attribute [local irreducible] WalkL Walk
end Go.Ab
namespace Go.Ab
open Go.RowKit Go.Proofs
set_option maxHeartbeats 16000000
set_option maxRecDepth 20000
attribute [local irreducible] WalkL Walk
theorem z458 (p : List Int) : erow [] p = none := by cases p <;> rfl
theorem z1061 (M P : List (List Int)) (hM : M.length < 2 ^ 30) (hMr : ∀ r ∈ M, r.length < 2 ^ 30) (hl : M.length = P.length) (hr : ∀ (i : Nat) r p, M[i]? = some r → P[i]? = some p → r.length = p.length) :
    Fn Try.prog 30 [.sl (listRows M), .sl (listRows P)] (.bool (earlierB M P)) := by
  obtain ⟨R, hR⟩ : ∃ R, R = earlierB M P := ⟨_, rfl⟩
  rw [← hR]
  refine z24 52 Try.call30 Try.func30 rfl (by decide) fun J => ?_
  simp (maxSteps := 4000000) only [go_sem, St.start, Try.ntmps30, Try.results30]
  repeat (first | refine nx (by first | (constructor; done) | exact .other rfl) ?_ | (refine z10 fun K hK => ?_; simp (maxSteps := 4000000) only [go_sem]; refine hK _ ?_; clear hK K))
  refine z18 (fun (i : Nat) => [(5, .d (.i (i : Int)))]) (fun _ => []) (fun i => i ≤ M.length ∧ R = earlierB (M.drop i) (P.drop i)) (fun i => M.length - i) 0 ?_ ⟨Nat.zero_le _, hR⟩ ?_
  · simp (maxSteps := 4000000) only [go_sem]
    refine z14 [] ?_ ?_ rfl rfl <;> simp [lessT, lessM, lessB, AV.less]
  · rintro i ⟨hi, hRi⟩
    simp (maxSteps := 4000000) only [go_sem]
    repeat (first | refine nx (by first | (constructor; done) | exact .other rfl) ?_ | (refine z10 fun K hK => ?_; simp (maxSteps := 4000000) only [go_sem, z32]; refine hK _ ?_; clear hK K))
    refine z17 rfl (fun hb => ?_) (fun hb => ?_)
    · have hlt : i < M.length := by simpa using hb
      have hw : IntKind.i64.wrap ((i : Int) + 1) = ((i + 1 : Nat) : Int) := by rw [z21 (by omega)]; simp
      obtain ⟨r, hx⟩ : ∃ r, M[i]? = some r := ⟨_, List.getElem?_eq_getElem hlt⟩
      obtain ⟨p, hp⟩ : ∃ p, P[i]? = some p := ⟨_, List.getElem?_eq_getElem (by omega)⟩
      have hrp := hr i r p hx hp
      have g1 := z36 hx
      have g2 := z36 hp
      have hni : ¬ ((i : Int) < 0) := by omega
      have hrs := hMr r (List.mem_of_getElem? hx)
      rw [z33 hx, z33 hp, earlierB] at hRi
      repeat (first | refine nx (by first | (constructor; done) | exact .other rfl) ?_ | (refine z10 fun K hK => ?_; simp (maxSteps := 4000000) only [go_sem]; refine hK _ ?_; clear hK K))
      refine z18 (fun (j : Nat) => [(6, .d (.i (j : Int)))]) (fun _ => []) (fun j => j ≤ r.length ∧ R = (erow (r.drop j) (p.drop j)).getD (earlierB (M.drop (i + 1)) (P.drop (i + 1)))) (fun j => r.length - j) 0 ?_ ⟨Nat.zero_le _, hRi⟩ ?_
      · simp (maxSteps := 4000000) only [go_sem]
        refine z14 [] ?_ ?_ rfl rfl <;> simp [lessT, lessM, lessB, AV.less]
      · rintro j ⟨hj, hRj⟩
        simp (maxSteps := 4000000) only [go_sem]
        repeat (first | refine nx (by first | (constructor; done) | exact .other rfl) ?_ | (refine z10 fun K hK => ?_; simp (maxSteps := 4000000) only [go_sem, g1, hni, z38]; refine hK _ ?_; clear hK K))
        refine z17 rfl (fun hb => ?_) (fun hb => ?_)
        · have hltj : j < r.length := by simpa using hb
          have hwj : IntKind.i64.wrap ((j : Int) + 1) = ((j + 1 : Nat) : Int) := by rw [z21 (by omega)]; simp
          obtain ⟨x, hxj⟩ : ∃ x, r[j]? = some x := ⟨_, List.getElem?_eq_getElem hltj⟩
          obtain ⟨y, hyj⟩ : ∃ y, p[j]? = some y := ⟨_, List.getElem?_eq_getElem (by omega)⟩
          have g3 := z40 hxj
          have g4 := z40 hyj
          have hnj : ¬ ((j : Int) < 0) := by omega
          rw [z33 hxj, z33 hyj, erow] at hRj
          by_cases e : x = y
          · rw [if_pos e] at hRj
            have d1 : (x != y) = false := by simpa using e
            repeat (first | refine z25 ?_ | refine z22 ?_ | refine z19 ?_ | refine z20 ?_ | refine z16 ?_ | refine z13 ?_)
            refine z23 (by kernel_rfl) (by kernel_rfl) fun K hK => ?_
            simp (maxSteps := 4000000) only [go_sem, g1, g2, g3, g4, hni, hnj, d1]
            refine ⟨by kernel_rfl, hK _ ?_⟩
            clear hK K
            repeat (first | refine z12 rfl ?_ | refine z11 rfl ?_ | refine nx (by first | (constructor; done) | exact .other rfl) ?_ | (refine z10 fun K hK => ?_; simp (maxSteps := 4000000) only [go_sem, hwj]; refine hK _ ?_; clear hK K))
            refine ⟨rfl, j + 1, ?_, ⟨hltj, hRj⟩, by omega⟩
            refine z14 [] ?_ ?_ rfl rfl <;> simp [lessT, lessM, lessB, AV.less]
          · rw [if_neg e] at hRj
            have d1 : (x != y) = true := by simpa using e
            rw [hRj]
            repeat (first | refine z25 ?_ | refine z22 ?_ | refine z19 ?_ | refine z20 ?_ | refine z16 ?_ | refine z13 ?_)
            refine z23 (by kernel_rfl) (by kernel_rfl) fun K hK => ?_
            simp (maxSteps := 4000000) only [go_sem, g1, g2, g3, g4, hni, hnj, d1]
            refine ⟨by kernel_rfl, hK _ ?_⟩
            clear hK K
            refine z12 rfl ?_
            refine z25 ?_
            refine z23 (by kernel_rfl) (by kernel_rfl) fun K hK => ?_
            simp (maxSteps := 4000000) only [go_sem, g1, g2, g3, g4, hni, hnj]
            refine ⟨by kernel_rfl, hK _ ?_⟩
            clear hK K
            repeat (first | refine z12 rfl ?_ | refine z11 rfl ?_ | refine nx (by first | (constructor; done) | exact .other rfl) ?_ | (refine z10 fun K hK => ?_; simp (maxSteps := 4000000) only [go_sem]; refine hK _ ?_; clear hK K))
            simp (maxSteps := 4000000) only [go_sem, Option.getD_some]
        · have he : j = r.length := by (have : ¬ j < r.length := by simpa using hb); omega
          subst he
          rw [List.drop_length, z458, Option.getD_none] at hRj
          repeat (first | refine nx (by first | (constructor; done) | exact .other rfl) ?_ | (refine z10 fun K hK => ?_; simp (maxSteps := 4000000) only [go_sem, hw]; refine hK _ ?_; clear hK K))
          refine ⟨rfl, i + 1, ?_, ⟨hlt, hRj⟩, by omega⟩
          refine z14 [] ?_ ?_ rfl rfl <;> simp [lessT, lessM, lessB, AV.less]
    · have he : i = M.length := by (have : ¬ i < M.length := by simpa using hb); omega
      subst he
      rw [List.drop_length] at hRi
      have : R = false := by rw [hRi]; cases P.drop M.length <;> rfl
      rw [this]
      repeat (first | refine nx (by first | (constructor; done) | exact .other rfl) ?_ | (refine z10 fun K hK => ?_; simp (maxSteps := 4000000) only [go_sem]; refine hK _ ?_; clear hK K))
      simp (maxSteps := 4000000) only [go_sem]
theorem z651 {q q' : Int → Diners → Bool} {M P : List (List Int)} {D : List (List Diners)} (h1 : shapedB q M D = true) (h2 : shapedB q' P D = true) (i : Nat) (r p : List Int) (hr : M[i]? = some r) (hp : P[i]? = some p) : r.length = p.length := by
  obtain ⟨x, hx, ho⟩ := z90 h1 hr
  obtain ⟨y, hy, ho2⟩ := z90 h2 hp
  rw [hx] at hy
  cases hy
  rw [z71 ho, z71 ho2]
theorem zf6 (k : Kitchen) (M : List (List Int)) (hs : KitSmall k) (hM : M.length < 2 ^ 30) (hMr : ∀ r ∈ M, r.length < 2 ^ 30) : Fn Try.prog 6 [.agg k.cells, .sl (listRows M)] (.bool true) := by
  have h22 := z1064 k hs
  have h13 := z1067
  have h12 := z1068 M hM
  cases q1 : readyB k with
  | false =>
    rw [q1] at h22
    rw [Kitchen.cells] at h22 ⊢
    refine z24 107 Try.call6 Try.func6 rfl (by decide) fun J => ?_
    simp (maxSteps := 4000000) only [go_sem, St.start, Try.ntmps6, Try.results6]
    repeat (first | refine z12 rfl ?_ | refine z11 rfl ?_ | refine nx (by first | (constructor; done) | exact .other rfl) ?_ | (refine z10 fun K hK => ?_; simp (maxSteps := 4000000) only [go_sem]; (repeat (first | (refine ⟨_, .lent (hf := h22) (hd := rfl) (hr := rfl), ?_⟩; simp (maxSteps := 4000000) only [go_sem]) | (refine ⟨_, .lent (hf := h13) (hd := rfl) (hr := rfl), ?_⟩; simp (maxSteps := 4000000) only [go_sem]) | (refine ⟨_, .given (hf := h22) (hd := rfl) (ha := rfl), ?_⟩; simp (maxSteps := 4000000) only [go_sem]) | (refine ⟨_, .given (hf := h13) (hd := rfl) (ha := rfl), ?_⟩; simp (maxSteps := 4000000) only [go_sem]))); refine hK _ ?_; clear hK K))
    simp (maxSteps := 4000000) only [go_sem]
  | true =>
  rw [q1] at h22
  cases q2 : farRows M with
  | true =>
    rw [q2] at h12
    rw [Kitchen.cells] at h22 ⊢
    refine z24 107 Try.call6 Try.func6 rfl (by decide) fun J => ?_
    simp (maxSteps := 4000000) only [go_sem, St.start, Try.ntmps6, Try.results6]
    repeat (first | refine z12 rfl ?_ | refine z11 rfl ?_ | refine nx (by first | (constructor; done) | exact .other rfl) ?_ | (refine z10 fun K hK => ?_; simp (maxSteps := 4000000) only [go_sem]; (repeat (first | (refine ⟨_, .lent (hf := h22) (hd := rfl) (hr := rfl), ?_⟩; simp (maxSteps := 4000000) only [go_sem]) | (refine ⟨_, .lent (hf := h12) (hd := rfl) (hr := rfl), ?_⟩; simp (maxSteps := 4000000) only [go_sem]) | (refine ⟨_, .lent (hf := h13) (hd := rfl) (hr := rfl), ?_⟩; simp (maxSteps := 4000000) only [go_sem]) | (refine ⟨_, .given (hf := h22) (hd := rfl) (ha := rfl), ?_⟩; simp (maxSteps := 4000000) only [go_sem]) | (refine ⟨_, .given (hf := h12) (hd := rfl) (ha := rfl), ?_⟩; simp (maxSteps := 4000000) only [go_sem]) | (refine ⟨_, .given (hf := h13) (hd := rfl) (ha := rfl), ?_⟩; simp (maxSteps := 4000000) only [go_sem]))); refine hK _ ?_; clear hK K))
    simp (maxSteps := 4000000) only [go_sem]
  | false =>
  rw [q2] at h12
  have hr := q1
  simp only [readyB, Bool.and_eq_true, beq_iff_eq] at hr
  have h0 := hr.2
  have hg : KitGood k := z177 (z162.1 h0)
  have h23 := z1018 k hg M hM hMr
  have h15 := z1019 k hs
  rw [planK, if_pos h0] at h15
  have hMs : shapedB (menuB k) M k.days = true → Fn Try.prog 29 [.agg k.cells, .sl (listRows M)] _ := fun hsh => z985 k hg M hsh
  by_cases hw : wasteK k ≥ 1099511627776
  · rw [if_pos hw] at h15
    dsimp only at h15
    cases q4 : shapedB (menuB k) M k.days with
    | false =>
      rw [q4] at h23
      rw [Kitchen.cells] at h22 h23 h15 ⊢
      refine z24 107 Try.call6 Try.func6 rfl (by decide) fun J => ?_
      simp (maxSteps := 4000000) only [go_sem, St.start, Try.ntmps6, Try.results6]
      repeat (first | refine z12 rfl ?_ | refine z11 rfl ?_ | refine nx (by first | (constructor; done) | exact .other rfl) ?_ | (refine z10 fun K hK => ?_; simp (maxSteps := 4000000) only [go_sem]; (repeat (first | (refine ⟨_, .lent (hf := h22) (hd := rfl) (hr := rfl), ?_⟩; simp (maxSteps := 4000000) only [go_sem]) | (refine ⟨_, .lent (hf := h12) (hd := rfl) (hr := rfl), ?_⟩; simp (maxSteps := 4000000) only [go_sem]) | (refine ⟨_, .lent (hf := h15) (hd := rfl) (hr := rfl), ?_⟩; simp (maxSteps := 4000000) only [go_sem]) | (refine ⟨_, .lent (hf := h23) (hd := rfl) (hr := rfl), ?_⟩; simp (maxSteps := 4000000) only [go_sem]) | (refine ⟨_, .lent (hf := h13) (hd := rfl) (hr := rfl), ?_⟩; simp (maxSteps := 4000000) only [go_sem]) | (refine ⟨_, .given (hf := h22) (hd := rfl) (ha := rfl), ?_⟩; simp (maxSteps := 4000000) only [go_sem]) | (refine ⟨_, .given (hf := h12) (hd := rfl) (ha := rfl), ?_⟩; simp (maxSteps := 4000000) only [go_sem]) | (refine ⟨_, .given (hf := h15) (hd := rfl) (ha := rfl), ?_⟩; simp (maxSteps := 4000000) only [go_sem]) | (refine ⟨_, .given (hf := h23) (hd := rfl) (ha := rfl), ?_⟩; simp (maxSteps := 4000000) only [go_sem]) | (refine ⟨_, .given (hf := h13) (hd := rfl) (ha := rfl), ?_⟩; simp (maxSteps := 4000000) only [go_sem]))); refine hK _ ?_; clear hK K))
      simp (maxSteps := 4000000) only [go_sem]
    | true =>
      rw [q4] at h23
      have h29 := z985 k hg M q4
      have hne : ((mostK k M : Int) == (k.days.length : Int)) = false := by
        simp only [beq_eq_false_iff_ne]
        intro hc
        have := (z380 hg q4 (by omega)).1
        omega
      rw [hne] at h29
      obtain ⟨W, hW⟩ : ∃ W, W = (endSt k M (pickC k true)).2 := ⟨_, rfl⟩
      rw [← hW] at h29
      rw [Kitchen.cells] at h22 h23 h15 h29 ⊢
      refine z24 107 Try.call6 Try.func6 rfl (by decide) fun J => ?_
      simp (maxSteps := 4000000) only [go_sem, St.start, Try.ntmps6, Try.results6]
      repeat (first | refine z12 rfl ?_ | refine z11 rfl ?_ | refine nx (by first | (constructor; done) | exact .other rfl) ?_ | (refine z10 fun K hK => ?_; simp (maxSteps := 4000000) only [go_sem]; (repeat (first | (refine ⟨_, .lent (hf := h22) (hd := rfl) (hr := rfl), ?_⟩; simp (maxSteps := 4000000) only [go_sem]) | (refine ⟨_, .lent (hf := h12) (hd := rfl) (hr := rfl), ?_⟩; simp (maxSteps := 4000000) only [go_sem]) | (refine ⟨_, .lent (hf := h15) (hd := rfl) (hr := rfl), ?_⟩; simp (maxSteps := 4000000) only [go_sem]) | (refine ⟨_, .lent (hf := h23) (hd := rfl) (hr := rfl), ?_⟩; simp (maxSteps := 4000000) only [go_sem]) | (refine ⟨_, .lent (hf := h29) (hd := rfl) (hr := rfl), ?_⟩; simp (maxSteps := 4000000) only [go_sem]) | (refine ⟨_, .lent (hf := h13) (hd := rfl) (hr := rfl), ?_⟩; simp (maxSteps := 4000000) only [go_sem]) | (refine ⟨_, .given (hf := h22) (hd := rfl) (ha := rfl), ?_⟩; simp (maxSteps := 4000000) only [go_sem]) | (refine ⟨_, .given (hf := h12) (hd := rfl) (ha := rfl), ?_⟩; simp (maxSteps := 4000000) only [go_sem]) | (refine ⟨_, .given (hf := h15) (hd := rfl) (ha := rfl), ?_⟩; simp (maxSteps := 4000000) only [go_sem]) | (refine ⟨_, .given (hf := h23) (hd := rfl) (ha := rfl), ?_⟩; simp (maxSteps := 4000000) only [go_sem]) | (refine ⟨_, .given (hf := h29) (hd := rfl) (ha := rfl), ?_⟩; simp (maxSteps := 4000000) only [go_sem]) | (refine ⟨_, .given (hf := h13) (hd := rfl) (ha := rfl), ?_⟩; simp (maxSteps := 4000000) only [go_sem]))); refine hK _ ?_; clear hK K))
      simp (maxSteps := 4000000) only [go_sem]
  · rw [if_neg hw] at h15
    have hw : wasteK k < 1099511627776 := by omega
    obtain ⟨P, hP⟩ : ∃ P, P = (planL k k.days.length).2 := ⟨_, rfl⟩
    have hPs := z659 hg hw
    have hPl := z65 k k.days.length
    have hPr := z814 hg
    obtain ⟨s1, s2⟩ := z515 hg hw
    rw [← hP] at h15 hPs hPl hPr s1 s2
    obtain ⟨W, hW⟩ : ∃ W, W = wasteK k := ⟨_, rfl⟩
    rw [← hW] at h15 s2
    dsimp only at h15
    have hdy := hg.days
    have h23p := z1018 k hg P (by omega) hPr
    rw [hPs] at h23p
    have h27 := z1062 k P hs (by omega) hPr
    have hop : openK k P = 0 := by rw [openK, if_pos h0, if_pos hPs]
    rw [if_pos hop, s1] at h27
    have h29p := z985 k hg P hPs
    rw [s1, s2] at h29p
    obtain ⟨L, hL⟩ : ∃ L, L = leastK k P := ⟨_, rfl⟩
    rw [← hL] at h27
    have n1 : ((k.days.length : Int) == (k.days.length : Int)) = true := by simp
    have n2 : ((k.days.length : Int) != (k.days.length : Int)) = false := by simp
    have n3 : (W != W) = false := by simp
    rw [n1] at h29p
    cases q4 : shapedB (menuB k) M k.days with
    | false =>
      rw [q4] at h23
      rw [Kitchen.cells] at h22 h23 h15 h23p h27 h29p ⊢
      refine z24 107 Try.call6 Try.func6 rfl (by decide) fun J => ?_
      simp (maxSteps := 4000000) only [go_sem, St.start, Try.ntmps6, Try.results6]
      repeat (first | refine z12 rfl ?_ | refine z11 rfl ?_ | refine nx (by first | (constructor; done) | exact .other rfl) ?_ | (refine z10 fun K hK => ?_; simp (maxSteps := 4000000) only [go_sem, n2, n3, z15]; (repeat (first | (refine ⟨_, .lent (hf := h22) (hd := rfl) (hr := rfl), ?_⟩; simp (maxSteps := 4000000) only [go_sem, n2, n3, z15]) | (refine ⟨_, .lent (hf := h12) (hd := rfl) (hr := rfl), ?_⟩; simp (maxSteps := 4000000) only [go_sem, n2, n3, z15]) | (refine ⟨_, .lent (hf := h15) (hd := rfl) (hr := rfl), ?_⟩; simp (maxSteps := 4000000) only [go_sem, n2, n3, z15]) | (refine ⟨_, .lent (hf := h23p) (hd := rfl) (hr := rfl), ?_⟩; simp (maxSteps := 4000000) only [go_sem, n2, n3, z15]) | (refine ⟨_, .lent (hf := h27) (hd := rfl) (hr := rfl), ?_⟩; simp (maxSteps := 4000000) only [go_sem, n2, n3, z15]) | (refine ⟨_, .lent (hf := h29p) (hd := rfl) (hr := rfl), ?_⟩; simp (maxSteps := 4000000) only [go_sem, n2, n3, z15]) | (refine ⟨_, .lent (hf := h23) (hd := rfl) (hr := rfl), ?_⟩; simp (maxSteps := 4000000) only [go_sem, n2, n3, z15]) | (refine ⟨_, .lent (hf := h13) (hd := rfl) (hr := rfl), ?_⟩; simp (maxSteps := 4000000) only [go_sem, n2, n3, z15]) | (refine ⟨_, .given (hf := h22) (hd := rfl) (ha := rfl), ?_⟩; simp (maxSteps := 4000000) only [go_sem, n2, n3, z15]) | (refine ⟨_, .given (hf := h12) (hd := rfl) (ha := rfl), ?_⟩; simp (maxSteps := 4000000) only [go_sem, n2, n3, z15]) | (refine ⟨_, .given (hf := h15) (hd := rfl) (ha := rfl), ?_⟩; simp (maxSteps := 4000000) only [go_sem, n2, n3, z15]) | (refine ⟨_, .given (hf := h23p) (hd := rfl) (ha := rfl), ?_⟩; simp (maxSteps := 4000000) only [go_sem, n2, n3, z15]) | (refine ⟨_, .given (hf := h27) (hd := rfl) (ha := rfl), ?_⟩; simp (maxSteps := 4000000) only [go_sem, n2, n3, z15]) | (refine ⟨_, .given (hf := h29p) (hd := rfl) (ha := rfl), ?_⟩; simp (maxSteps := 4000000) only [go_sem, n2, n3, z15]) | (refine ⟨_, .given (hf := h23) (hd := rfl) (ha := rfl), ?_⟩; simp (maxSteps := 4000000) only [go_sem, n2, n3, z15]) | (refine ⟨_, .given (hf := h13) (hd := rfl) (ha := rfl), ?_⟩; simp (maxSteps := 4000000) only [go_sem, n2, n3, z15]))); refine hK _ ?_; clear hK K))
      simp (maxSteps := 4000000) only [go_sem]
    | true =>
      rw [q4] at h23
      have h29 := z985 k hg M q4
      cases hne : ((mostK k M : Int) == (k.days.length : Int)) with
      | false =>
        rw [hne] at h29
        obtain ⟨U, hU⟩ : ∃ U, U = (endSt k M (pickC k true)).2 := ⟨_, rfl⟩
        rw [← hU] at h29
        rw [Kitchen.cells] at h22 h23 h15 h23p h27 h29p h29 ⊢
        refine z24 107 Try.call6 Try.func6 rfl (by decide) fun J => ?_
        simp (maxSteps := 4000000) only [go_sem, St.start, Try.ntmps6, Try.results6]
        repeat (first | refine z12 rfl ?_ | refine z11 rfl ?_ | refine nx (by first | (constructor; done) | exact .other rfl) ?_ | (refine z10 fun K hK => ?_; simp (maxSteps := 4000000) only [go_sem, n2, n3, z15]; (repeat (first | (refine ⟨_, .lent (hf := h22) (hd := rfl) (hr := rfl), ?_⟩; simp (maxSteps := 4000000) only [go_sem, n2, n3, z15]) | (refine ⟨_, .lent (hf := h12) (hd := rfl) (hr := rfl), ?_⟩; simp (maxSteps := 4000000) only [go_sem, n2, n3, z15]) | (refine ⟨_, .lent (hf := h15) (hd := rfl) (hr := rfl), ?_⟩; simp (maxSteps := 4000000) only [go_sem, n2, n3, z15]) | (refine ⟨_, .lent (hf := h23p) (hd := rfl) (hr := rfl), ?_⟩; simp (maxSteps := 4000000) only [go_sem, n2, n3, z15]) | (refine ⟨_, .lent (hf := h27) (hd := rfl) (hr := rfl), ?_⟩; simp (maxSteps := 4000000) only [go_sem, n2, n3, z15]) | (refine ⟨_, .lent (hf := h29p) (hd := rfl) (hr := rfl), ?_⟩; simp (maxSteps := 4000000) only [go_sem, n2, n3, z15]) | (refine ⟨_, .lent (hf := h23) (hd := rfl) (hr := rfl), ?_⟩; simp (maxSteps := 4000000) only [go_sem, n2, n3, z15]) | (refine ⟨_, .lent (hf := h29) (hd := rfl) (hr := rfl), ?_⟩; simp (maxSteps := 4000000) only [go_sem, n2, n3, z15]) | (refine ⟨_, .lent (hf := h13) (hd := rfl) (hr := rfl), ?_⟩; simp (maxSteps := 4000000) only [go_sem, n2, n3, z15]) | (refine ⟨_, .given (hf := h22) (hd := rfl) (ha := rfl), ?_⟩; simp (maxSteps := 4000000) only [go_sem, n2, n3, z15]) | (refine ⟨_, .given (hf := h12) (hd := rfl) (ha := rfl), ?_⟩; simp (maxSteps := 4000000) only [go_sem, n2, n3, z15]) | (refine ⟨_, .given (hf := h15) (hd := rfl) (ha := rfl), ?_⟩; simp (maxSteps := 4000000) only [go_sem, n2, n3, z15]) | (refine ⟨_, .given (hf := h23p) (hd := rfl) (ha := rfl), ?_⟩; simp (maxSteps := 4000000) only [go_sem, n2, n3, z15]) | (refine ⟨_, .given (hf := h27) (hd := rfl) (ha := rfl), ?_⟩; simp (maxSteps := 4000000) only [go_sem, n2, n3, z15]) | (refine ⟨_, .given (hf := h29p) (hd := rfl) (ha := rfl), ?_⟩; simp (maxSteps := 4000000) only [go_sem, n2, n3, z15]) | (refine ⟨_, .given (hf := h23) (hd := rfl) (ha := rfl), ?_⟩; simp (maxSteps := 4000000) only [go_sem, n2, n3, z15]) | (refine ⟨_, .given (hf := h29) (hd := rfl) (ha := rfl), ?_⟩; simp (maxSteps := 4000000) only [go_sem, n2, n3, z15]) | (refine ⟨_, .given (hf := h13) (hd := rfl) (ha := rfl), ?_⟩; simp (maxSteps := 4000000) only [go_sem, n2, n3, z15]))); refine hK _ ?_; clear hK K))
        simp (maxSteps := 4000000) only [go_sem]
      | true =>
        rw [hne] at h29
        have hmd : mostK k M = k.days.length := by
          have := beq_iff_eq.1 hne
          omega
        obtain ⟨_, l2, l3⟩ := z380 hg q4 hmd
        have hMl := z39 q4
        have h30 := z1061 M P hM hMr (by omega) (z651 q4 hPs)
        obtain ⟨U, hU⟩ : ∃ U, U = (endSt k M (pickC k true)).2 := ⟨_, rfl⟩
        rw [← hU] at h29 l2 l3
        rw [← hW] at l2 l3
        rw [← hP] at l3
        by_cases hlt : W < U
        · have d1 : decide (W < U) = true := decide_eq_true hlt
          rw [Kitchen.cells] at h22 h23 h15 h23p h27 h29p h29 ⊢
          refine z24 107 Try.call6 Try.func6 rfl (by decide) fun J => ?_
          simp (maxSteps := 4000000) only [go_sem, St.start, Try.ntmps6, Try.results6]
          repeat (first | refine z12 rfl ?_ | refine z11 rfl ?_ | refine nx (by first | (constructor; done) | exact .other rfl) ?_ | (refine z10 fun K hK => ?_; simp (maxSteps := 4000000) only [go_sem, n2, n3, d1, z15]; (repeat (first | (refine ⟨_, .lent (hf := h22) (hd := rfl) (hr := rfl), ?_⟩; simp (maxSteps := 4000000) only [go_sem, n2, n3, d1, z15]) | (refine ⟨_, .lent (hf := h12) (hd := rfl) (hr := rfl), ?_⟩; simp (maxSteps := 4000000) only [go_sem, n2, n3, d1, z15]) | (refine ⟨_, .lent (hf := h15) (hd := rfl) (hr := rfl), ?_⟩; simp (maxSteps := 4000000) only [go_sem, n2, n3, d1, z15]) | (refine ⟨_, .lent (hf := h23p) (hd := rfl) (hr := rfl), ?_⟩; simp (maxSteps := 4000000) only [go_sem, n2, n3, d1, z15]) | (refine ⟨_, .lent (hf := h27) (hd := rfl) (hr := rfl), ?_⟩; simp (maxSteps := 4000000) only [go_sem, n2, n3, d1, z15]) | (refine ⟨_, .lent (hf := h29p) (hd := rfl) (hr := rfl), ?_⟩; simp (maxSteps := 4000000) only [go_sem, n2, n3, d1, z15]) | (refine ⟨_, .lent (hf := h23) (hd := rfl) (hr := rfl), ?_⟩; simp (maxSteps := 4000000) only [go_sem, n2, n3, d1, z15]) | (refine ⟨_, .lent (hf := h29) (hd := rfl) (hr := rfl), ?_⟩; simp (maxSteps := 4000000) only [go_sem, n2, n3, d1, z15]) | (refine ⟨_, .lent (hf := h13) (hd := rfl) (hr := rfl), ?_⟩; simp (maxSteps := 4000000) only [go_sem, n2, n3, d1, z15]) | (refine ⟨_, .given (hf := h22) (hd := rfl) (ha := rfl), ?_⟩; simp (maxSteps := 4000000) only [go_sem, n2, n3, d1, z15]) | (refine ⟨_, .given (hf := h12) (hd := rfl) (ha := rfl), ?_⟩; simp (maxSteps := 4000000) only [go_sem, n2, n3, d1, z15]) | (refine ⟨_, .given (hf := h15) (hd := rfl) (ha := rfl), ?_⟩; simp (maxSteps := 4000000) only [go_sem, n2, n3, d1, z15]) | (refine ⟨_, .given (hf := h23p) (hd := rfl) (ha := rfl), ?_⟩; simp (maxSteps := 4000000) only [go_sem, n2, n3, d1, z15]) | (refine ⟨_, .given (hf := h27) (hd := rfl) (ha := rfl), ?_⟩; simp (maxSteps := 4000000) only [go_sem, n2, n3, d1, z15]) | (refine ⟨_, .given (hf := h29p) (hd := rfl) (ha := rfl), ?_⟩; simp (maxSteps := 4000000) only [go_sem, n2, n3, d1, z15]) | (refine ⟨_, .given (hf := h23) (hd := rfl) (ha := rfl), ?_⟩; simp (maxSteps := 4000000) only [go_sem, n2, n3, d1, z15]) | (refine ⟨_, .given (hf := h29) (hd := rfl) (ha := rfl), ?_⟩; simp (maxSteps := 4000000) only [go_sem, n2, n3, d1, z15]) | (refine ⟨_, .given (hf := h13) (hd := rfl) (ha := rfl), ?_⟩; simp (maxSteps := 4000000) only [go_sem, n2, n3, d1, z15]))); refine hK _ ?_; clear hK K))
          simp (maxSteps := 4000000) only [go_sem]
        · have d1 : decide (W < U) = false := decide_eq_false hlt
          have hWU : U = W := by omega
          rw [l3 hWU] at h30
          have d2 : (W == U) = true := by simp [hWU]
          rw [Kitchen.cells] at h22 h23 h15 h23p h27 h29p h29 ⊢
          refine z24 107 Try.call6 Try.func6 rfl (by decide) fun J => ?_
          simp (maxSteps := 4000000) only [go_sem, St.start, Try.ntmps6, Try.results6]
          repeat (first | refine z12 rfl ?_ | refine z11 rfl ?_ | refine nx (by first | (constructor; done) | exact .other rfl) ?_ | (refine z10 fun K hK => ?_; simp (maxSteps := 4000000) only [go_sem, n2, n3, d1, d2, z15]; (repeat (first | (refine ⟨_, .lent (hf := h22) (hd := rfl) (hr := rfl), ?_⟩; simp (maxSteps := 4000000) only [go_sem, n2, n3, d1, d2, z15]) | (refine ⟨_, .lent (hf := h12) (hd := rfl) (hr := rfl), ?_⟩; simp (maxSteps := 4000000) only [go_sem, n2, n3, d1, d2, z15]) | (refine ⟨_, .lent (hf := h15) (hd := rfl) (hr := rfl), ?_⟩; simp (maxSteps := 4000000) only [go_sem, n2, n3, d1, d2, z15]) | (refine ⟨_, .lent (hf := h23p) (hd := rfl) (hr := rfl), ?_⟩; simp (maxSteps := 4000000) only [go_sem, n2, n3, d1, d2, z15]) | (refine ⟨_, .lent (hf := h27) (hd := rfl) (hr := rfl), ?_⟩; simp (maxSteps := 4000000) only [go_sem, n2, n3, d1, d2, z15]) | (refine ⟨_, .lent (hf := h29p) (hd := rfl) (hr := rfl), ?_⟩; simp (maxSteps := 4000000) only [go_sem, n2, n3, d1, d2, z15]) | (refine ⟨_, .lent (hf := h23) (hd := rfl) (hr := rfl), ?_⟩; simp (maxSteps := 4000000) only [go_sem, n2, n3, d1, d2, z15]) | (refine ⟨_, .lent (hf := h29) (hd := rfl) (hr := rfl), ?_⟩; simp (maxSteps := 4000000) only [go_sem, n2, n3, d1, d2, z15]) | (refine ⟨_, .lent (hf := h30) (hd := rfl) (hr := rfl), ?_⟩; simp (maxSteps := 4000000) only [go_sem, n2, n3, d1, d2, z15]) | (refine ⟨_, .lent (hf := h13) (hd := rfl) (hr := rfl), ?_⟩; simp (maxSteps := 4000000) only [go_sem, n2, n3, d1, d2, z15]) | (refine ⟨_, .given (hf := h22) (hd := rfl) (ha := rfl), ?_⟩; simp (maxSteps := 4000000) only [go_sem, n2, n3, d1, d2, z15]) | (refine ⟨_, .given (hf := h12) (hd := rfl) (ha := rfl), ?_⟩; simp (maxSteps := 4000000) only [go_sem, n2, n3, d1, d2, z15]) | (refine ⟨_, .given (hf := h15) (hd := rfl) (ha := rfl), ?_⟩; simp (maxSteps := 4000000) only [go_sem, n2, n3, d1, d2, z15]) | (refine ⟨_, .given (hf := h23p) (hd := rfl) (ha := rfl), ?_⟩; simp (maxSteps := 4000000) only [go_sem, n2, n3, d1, d2, z15]) | (refine ⟨_, .given (hf := h27) (hd := rfl) (ha := rfl), ?_⟩; simp (maxSteps := 4000000) only [go_sem, n2, n3, d1, d2, z15]) | (refine ⟨_, .given (hf := h29p) (hd := rfl) (ha := rfl), ?_⟩; simp (maxSteps := 4000000) only [go_sem, n2, n3, d1, d2, z15]) | (refine ⟨_, .given (hf := h23) (hd := rfl) (ha := rfl), ?_⟩; simp (maxSteps := 4000000) only [go_sem, n2, n3, d1, d2, z15]) | (refine ⟨_, .given (hf := h29) (hd := rfl) (ha := rfl), ?_⟩; simp (maxSteps := 4000000) only [go_sem, n2, n3, d1, d2, z15]) | (refine ⟨_, .given (hf := h30) (hd := rfl) (ha := rfl), ?_⟩; simp (maxSteps := 4000000) only [go_sem, n2, n3, d1, d2, z15]) | (refine ⟨_, .given (hf := h13) (hd := rfl) (ha := rfl), ?_⟩; simp (maxSteps := 4000000) only [go_sem, n2, n3, d1, d2, z15]))); refine hK _ ?_; clear hK K))
          simp (maxSteps := 4000000) only [go_sem]
end Go.Ab
