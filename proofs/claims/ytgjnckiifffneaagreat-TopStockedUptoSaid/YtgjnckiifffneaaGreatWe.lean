/- A walk engine over abstract states, and the contracts of the functions that the statement reaches: part 5. -/
import Derived.Test.YtgjnckiifffneaaGreatWd
set_option linter.unusedVariables false
set_option linter.unusedSimpArgs false
set_option linter.unnecessarySimpa false
namespace Go.Ab
open Go.RowKit Go.Proofs
set_option maxHeartbeats 8000000
set_option maxRecDepth 20000
attribute [local irreducible] WalkL Walk
def cmpI (a b : Int) : Int := if a < b then -1 else if a > b then 1 else 0
theorem zf119 (n : Int) : Fn Tryz.prog 119 [.i n] (.bool false) := by
  have q : (n != n) = false := by simp
  refine z21 6 Tryz.call119 Tryz.func119 rfl (by decide) fun J => ?_
  simp (maxSteps := 4000000) only [go_sem, St.start, Tryz.ntmps119, Tryz.results119]
  repeat (first | refine z14 ?_ | refine z9 ?_ | refine z7 ?_ | (refine z5 fun K hK => ?_; simp (maxSteps := 4000000) only [go_sem, q]; refine hK _ ?_; clear hK K) | refine z13 ?_ | refine z15 ?_ | refine z10 ?_ | refine z8 ?_ | refine z6 rfl ?_ | refine z12 ?_ | refine z3 ?_ | refine z16 ?_ | refine z11 ?_ | refine z4 ?_)
  simp (maxSteps := 4000000) only [go_sem]
theorem zf81 (a b : Int) : Fn Tryz.prog 81 [.i a, .i b] (.i (cmpI a b)) := by
  have h1 := zf119 a
  have h2 := zf119 b
  unfold cmpI
  by_cases q1 : a < b
  · rw [if_pos q1]
    have d : decide (a < b) = true := decide_eq_true q1
    refine z21 20 Tryz.call81 Tryz.func81 rfl (by decide) fun J => ?_
    simp (maxSteps := 4000000) only [go_sem, St.start, Tryz.ntmps81, Tryz.results81]
    repeat (first | refine z18 rfl ?_ | refine z17 rfl ?_ | refine z14 ?_ | refine z9 ?_ | refine z7 ?_ | (refine z5 fun K hK => ?_; simp (maxSteps := 4000000) only [go_sem, d]; (repeat (first | (refine ⟨_, .lent (hf := h1) (hd := rfl) (hr := rfl), ?_⟩; simp (maxSteps := 4000000) only [go_sem, d]) | (refine ⟨_, .lent (hf := h2) (hd := rfl) (hr := rfl), ?_⟩; simp (maxSteps := 4000000) only [go_sem, d]) | (refine ⟨_, .given (hf := h1) (hd := rfl) (ha := rfl), ?_⟩; simp (maxSteps := 4000000) only [go_sem, d]) | (refine ⟨_, .given (hf := h2) (hd := rfl) (ha := rfl), ?_⟩; simp (maxSteps := 4000000) only [go_sem, d]))); refine hK _ ?_; clear hK K) | refine z13 ?_ | refine z15 ?_ | refine z10 ?_ | refine z8 ?_ | refine z6 rfl ?_ | refine z12 ?_ | refine z3 ?_ | refine z16 ?_ | refine z11 ?_ | refine z4 ?_)
    simp (maxSteps := 4000000) only [go_sem]
  · rw [if_neg q1]
    have d : decide (a < b) = false := decide_eq_false q1
    by_cases q2 : a > b
    · rw [if_pos q2]
      have d2 : decide (a > b) = true := decide_eq_true q2
      refine z21 20 Tryz.call81 Tryz.func81 rfl (by decide) fun J => ?_
      simp (maxSteps := 4000000) only [go_sem, St.start, Tryz.ntmps81, Tryz.results81]
      repeat (first | refine z18 rfl ?_ | refine z17 rfl ?_ | refine z14 ?_ | refine z9 ?_ | refine z7 ?_ | (refine z5 fun K hK => ?_; simp (maxSteps := 4000000) only [go_sem, d, d2]; (repeat (first | (refine ⟨_, .lent (hf := h1) (hd := rfl) (hr := rfl), ?_⟩; simp (maxSteps := 4000000) only [go_sem, d, d2]) | (refine ⟨_, .lent (hf := h2) (hd := rfl) (hr := rfl), ?_⟩; simp (maxSteps := 4000000) only [go_sem, d, d2]) | (refine ⟨_, .given (hf := h1) (hd := rfl) (ha := rfl), ?_⟩; simp (maxSteps := 4000000) only [go_sem, d, d2]) | (refine ⟨_, .given (hf := h2) (hd := rfl) (ha := rfl), ?_⟩; simp (maxSteps := 4000000) only [go_sem, d, d2]))); refine hK _ ?_; clear hK K) | refine z13 ?_ | refine z15 ?_ | refine z10 ?_ | refine z8 ?_ | refine z6 rfl ?_ | refine z12 ?_ | refine z3 ?_ | refine z16 ?_ | refine z11 ?_ | refine z4 ?_)
      simp (maxSteps := 4000000) only [go_sem]
    · rw [if_neg q2]
      have d2 : decide (a > b) = false := decide_eq_false q2
      refine z21 20 Tryz.call81 Tryz.func81 rfl (by decide) fun J => ?_
      simp (maxSteps := 4000000) only [go_sem, St.start, Tryz.ntmps81, Tryz.results81]
      repeat (first | refine z18 rfl ?_ | refine z17 rfl ?_ | refine z14 ?_ | refine z9 ?_ | refine z7 ?_ | (refine z5 fun K hK => ?_; simp (maxSteps := 4000000) only [go_sem, d, d2]; (repeat (first | (refine ⟨_, .lent (hf := h1) (hd := rfl) (hr := rfl), ?_⟩; simp (maxSteps := 4000000) only [go_sem, d, d2]) | (refine ⟨_, .lent (hf := h2) (hd := rfl) (hr := rfl), ?_⟩; simp (maxSteps := 4000000) only [go_sem, d, d2]) | (refine ⟨_, .given (hf := h1) (hd := rfl) (ha := rfl), ?_⟩; simp (maxSteps := 4000000) only [go_sem, d, d2]) | (refine ⟨_, .given (hf := h2) (hd := rfl) (ha := rfl), ?_⟩; simp (maxSteps := 4000000) only [go_sem, d, d2]))); refine hK _ ?_; clear hK K) | refine z13 ?_ | refine z15 ?_ | refine z10 ?_ | refine z8 ?_ | refine z6 rfl ?_ | refine z12 ?_ | refine z3 ?_ | refine z16 ?_ | refine z11 ?_ | refine z4 ?_)
      simp (maxSteps := 4000000) only [go_sem]
def noBatch : Batch := ⟨0, 0, 0⟩
def batAt (k : Kitchen) (i : Nat) : Batch := k.batches.getD i noBatch
theorem z285 {k : Kitchen} {i : Nat} (h : i < k.batches.length) : (batRows k.batches)[i]? = some (batAt k i).row := by
  obtain ⟨x, hx⟩ : ∃ x, k.batches[i]? = some x := ⟨_, List.getElem?_eq_getElem h⟩
  rw [z205 hx, batAt, List.getD, hx]
  rfl
theorem zf80 (k : Kitchen) (a b : Nat) (ha : a < k.batches.length) (hb : b < k.batches.length) : Fn Tryz.prog 80 [.i (a : Int), .i (b : Int), .ptr k.cells 0] (.i (cmpI (batAt k a).last (batAt k b).last)) := by
  have h := zf81 (batAt k a).last (batAt k b).last
  have ga := z285 ha
  have gb := z285 hb
  have na : ¬ ((a : Int) < 0) := by omega
  have nb : ¬ ((b : Int) < 0) := by omega
  rw [Batch.row] at ga gb
  refine z21 21 Tryz.call80 Tryz.func80 rfl (by decide) fun J => ?_
  simp (maxSteps := 4000000) only [go_sem, St.start, Tryz.ntmps80, Tryz.results80, Kitchen.cells]
  repeat (first | refine z14 ?_ | refine z9 ?_ | refine z7 ?_ | (refine z5 fun K hK => ?_; simp (maxSteps := 4000000) only [go_sem]; refine hK _ ?_; clear hK K) | refine z13 ?_ | refine z15 ?_ | refine z10 ?_ | refine z8 ?_ | refine z6 rfl ?_ | refine z12 ?_ | refine z3 ?_ | refine z16 ?_ | refine z11 ?_ | refine z4 ?_)
  refine z24 (by kernel_rfl) (by kernel_rfl) fun K hK => ?_
  simp (maxSteps := 4000000) only [go_sem, ga, gb, na, nb]
  refine ⟨_, .fn (hf := h) (hd := rfl) (hr := .inl rfl), ?_⟩
  simp (maxSteps := 4000000) only [go_sem]
  refine ⟨by kernel_rfl, hK _ ?_⟩
  clear hK K
  repeat (first | refine z14 ?_ | refine z9 ?_ | refine z7 ?_ | (refine z5 fun K hK => ?_; simp (maxSteps := 4000000) only [go_sem]; refine hK _ ?_; clear hK K) | refine z13 ?_ | refine z15 ?_ | refine z10 ?_ | refine z8 ?_ | refine z6 rfl ?_ | refine z12 ?_ | refine z3 ?_ | refine z16 ?_ | refine z11 ?_ | refine z4 ?_)
  simp (maxSteps := 4000000) only [go_sem]
def swapN (L : List Nat) (j : Nat) : List Nat := (L.set (j + 1) (L.getD j 0)).set j (L.getD (j + 1) 0)
def sinkN (f : Nat → Int) : List Nat → Nat → List Nat
  | L, 0 => L
  | L, j + 1 => if f (L.getD (j + 1) 0) < f (L.getD j 0) then sinkN f (swapN L j) j else L
def insN (f : Nat → Int) (L : List Nat) : Nat → List Nat
  | 0 => L
  | i + 1 => sinkN f (insN f L i) (i + 1)
def natRows (L : List Nat) : List (List DV) := L.map fun (n : Nat) => [DV.i (n : Int)]
theorem natRows_len (L : List Nat) : (natRows L).length = L.length := by simp [natRows]
theorem natRows_head (L : List Nat) : headIs 1 (natRows L) = true := by cases L <;> rfl
theorem z92 {L : List Nat} {i : Nat} (h : i < L.length) : (natRows L)[i]? = some [.i ((L.getD i 0 : Nat) : Int)] := by
  obtain ⟨x, hx⟩ : ∃ x, L[i]? = some x := ⟨_, List.getElem?_eq_getElem h⟩
  rw [natRows, List.getElem?_map, hx, List.getD, hx]
  rfl
theorem z259 (L : List Nat) (i x : Nat) : (natRows L).set i [.i (x : Int)] = natRows (L.set i x) := by simp [natRows, List.map_set]
attribute [go_sem] natRows_len natRows_head
theorem z136 (L : List Nat) (j : Nat) : (swapN L j).length = L.length := by simp [swapN]
theorem z246 {L : List Nat} {j : Nat} (hj : j + 1 < L.length) {x : Nat} (h : x ∈ swapN L j) : x ∈ L := by
  have g1 : L.getD j 0 ∈ L := by
    rw [List.getD, List.getElem?_eq_getElem (by omega)]
    exact List.getElem_mem _
  have g2 : L.getD (j + 1) 0 ∈ L := by
    rw [List.getD, List.getElem?_eq_getElem hj]
    exact List.getElem_mem _
  rcases List.mem_or_eq_of_mem_set h with h | h
  · rcases List.mem_or_eq_of_mem_set h with h | h
    · exact h
    · rw [h]; exact g1
  · rw [h]; exact g2
theorem sinkN_len (f : Nat → Int) : ∀ (j : Nat) (L : List Nat), (sinkN f L j).length = L.length
  | 0, _ => rfl
  | j + 1, L => by
    rw [sinkN]
    split
    · rw [sinkN_len f j, z136]
    · rfl
theorem sinkN_mem (f : Nat → Int) : ∀ (j : Nat) (L : List Nat), j < L.length → ∀ x ∈ sinkN f L j, x ∈ L
  | 0, _, _, _, h => h
  | j + 1, L, hj, x, h => by
    rw [sinkN] at h
    split at h
    · exact z246 hj (sinkN_mem f j _ (by rw [z136]; omega) x h)
    · exact h
theorem z122 (f : Nat → Int) (L : List Nat) : ∀ i, (insN f L i).length = L.length
  | 0 => rfl
  | i + 1 => by rw [insN, sinkN_len, z122 f L i]
theorem z181 (f : Nat → Int) (L : List Nat) : ∀ i, i < L.length ∨ i = 0 → ∀ x ∈ insN f L i, x ∈ L
  | 0, _, _, h => h
  | i + 1, hi, x, h => z181 f L i (by omega) x (sinkN_mem f (i + 1) _ (by rw [z122]; omega) x h)
def ordK (k : Kitchen) : List Nat := insN (fun i => (batAt k i).last) (List.range k.batches.length) (k.batches.length - 1)
theorem z224 (k : Kitchen) : (ordK k).length = k.batches.length := by rw [ordK, z122, List.length_range]
theorem z176 {k : Kitchen} {x : Nat} (h : x ∈ ordK k) : x < k.batches.length := List.mem_range.1 (z181 _ _ _ (by rw [List.length_range]; omega) x h)
theorem zf156 (k : Kitchen) (L : List Nat) (hL : ∀ x ∈ L, x < k.batches.length) (hl : L.length < 2 ^ 30) :
    FnG Tryz.prog 156 [.arr 3 1 (natRows L)] [0] [.own 0, .d (.i 0), .d (.i (L.length : Int)), .d (.fn 80 [.ptr k.cells 0])] (.tup []) [.arr 3 1 (natRows (insN (fun i => (batAt k i).last) L (L.length - 1)))] := by
  obtain ⟨f, hf⟩ : ∃ f : Nat → Int, f = fun i => (batAt k i).last := ⟨_, rfl⟩
  rw [← hf]
  have hcmp := fun a b ha hb => zf80 k a b ha hb
  have e1 : IntKind.i64.wrap (0 + 1) = ((0 + 1 : Nat) : Int) := by decide
  rw [Kitchen.cells] at hcmp
  rw [Kitchen.cells]
  have hcm : ∀ a b : Int, decide (cmpI a b < 0) = decide (a < b) := fun a b => by
    unfold cmpI
    split
    · simp [*]
    · split <;> simp [*]
  refine z87 53 Tryz.call156 Tryz.func156 rfl (by decide) [] [(0, 0)] (by simp only [List.length_cons, List.length_nil]; decide) (by kernel_rfl) fun J => ?_
  simp (maxSteps := 4000000) only [go_sem, St.startG, Tryz.ntmps156, Tryz.results156, List.map_cons, List.map_nil, List.range_succ]
  repeat (first | refine z14 ?_ | refine z9 ?_ | refine z7 ?_ | (refine z5 fun K hK => ?_; simp (maxSteps := 4000000) only [go_sem, e1]; refine hK _ ?_; clear hK K) | refine z13 ?_ | refine z15 ?_ | refine z10 ?_ | refine z8 ?_ | refine z6 rfl ?_ | refine z12 ?_ | refine z3 ?_ | refine z16 ?_ | refine z11 ?_ | refine z4 ?_)
  refine z22 (fun (a : Nat) => [(8, .d (.i ((a + 1 : Nat) : Int)))]) (fun a => [(53, some (.arr 3 1 (natRows (insN f L a))))]) (fun a => a = 0 ∨ a + 1 ≤ L.length) (fun a => L.length - a) 0 ?_ (.inl rfl) ?_
  · simp (maxSteps := 4000000) only [go_sem, insN]
    refine z19 [] ?_ ?_ rfl rfl <;> simp [lessT, lessM, lessB, AV.less]
    all_goals first | done | rfl
  · intro a ha
    have hAl := z122 f L a
    have hAm := z181 f L a (by omega)
    simp (maxSteps := 4000000) only [go_sem]
    repeat (first | refine z14 ?_ | refine z9 ?_ | refine z7 ?_ | (refine z5 fun K hK => ?_; simp (maxSteps := 4000000) only [go_sem]; refine hK _ ?_; clear hK K) | refine z13 ?_ | refine z15 ?_ | refine z10 ?_ | refine z8 ?_ | refine z6 rfl ?_ | refine z12 ?_ | refine z3 ?_ | refine z16 ?_ | refine z11 ?_ | refine z4 ?_)
    refine z20 rfl (fun hb => ?_) (fun hb => ?_)
    · have hlt : a + 1 < L.length := by have := of_decide_eq_true hb; omega
      have hw : IntKind.i64.wrap (((a + 1 : Nat) : Int) + 1) = ((a + 1 + 1 : Nat) : Int) := by rw [z23 (by omega)]; omega
      obtain ⟨A, hA⟩ : ∃ A, A = insN f L a := ⟨_, rfl⟩
      have hnx : insN f L (a + 1) = sinkN f A (a + 1) := by rw [insN, hA]
      rw [← hA] at hAl hAm ⊢
      repeat (first | refine z14 ?_ | refine z9 ?_ | refine z7 ?_ | (refine z5 fun K hK => ?_; simp (maxSteps := 4000000) only [go_sem]; refine hK _ ?_; clear hK K) | refine z13 ?_ | refine z15 ?_ | refine z10 ?_ | refine z8 ?_ | refine z6 rfl ?_ | refine z12 ?_ | refine z3 ?_ | refine z16 ?_ | refine z11 ?_ | refine z4 ?_)
      refine z22 (fun (q : Nat × List Nat) => [(9, .d (.i (q.1 : Int)))]) (fun q => [(53, some (.arr 3 1 (natRows q.2)))]) (fun q => q.1 ≤ a + 1 ∧ q.2.length = L.length ∧ (∀ x ∈ q.2, x < k.batches.length) ∧ sinkN f q.2 q.1 = sinkN f A (a + 1)) (fun q => q.1) (a + 1, A) ?_ ⟨Nat.le_refl _, hAl, fun x hx => hL x (hAm x hx), rfl⟩ ?_
      · simp (maxSteps := 4000000) only [go_sem]
        refine z19 [] ?_ ?_ rfl rfl <;> simp [lessT, lessM, lessB, AV.less]
        all_goals first | done | rfl
      · rintro ⟨j, cur⟩ ⟨hj, hcl, hcx, hsk⟩
        dsimp only at hj hcl hcx hsk
        have fin : ∀ X : List Nat, X = sinkN f A (a + 1) → natRows X = natRows (insN f L (a + 1)) := fun X h => by rw [hnx, h]
        cases j with
        | zero =>
          have hX : cur = insN f L (a + 1) := by rw [hnx, ← hsk]; rfl
          have d0 : decide ((0 : Int) > 0) = false := rfl
          simp (maxSteps := 4000000) only [go_sem]
          repeat (first | refine z14 ?_ | refine z9 ?_ | refine z7 ?_ | (refine z5 fun K hK => ?_; simp (maxSteps := 4000000) only [go_sem]; refine hK _ ?_; clear hK K) | refine z13 ?_ | refine z15 ?_ | refine z10 ?_ | refine z8 ?_ | refine z6 rfl ?_ | refine z12 ?_ | refine z3 ?_ | refine z16 ?_ | refine z11 ?_ | refine z4 ?_)
          refine z24 (by kernel_rfl) (by kernel_rfl) fun K hK => ?_
          simp (maxSteps := 4000000) only [go_sem, d0]
          refine ⟨by kernel_rfl, hK _ ?_⟩
          clear hK K
          repeat (first | refine z18 rfl ?_ | refine z17 rfl ?_ | refine z14 ?_ | refine z9 ?_ | refine z7 ?_ | (refine z5 fun K hK => ?_; simp (maxSteps := 4000000) only [go_sem, hw]; refine hK _ ?_; clear hK K) | refine z13 ?_ | refine z15 ?_ | refine z10 ?_ | refine z8 ?_ | refine z6 rfl ?_ | refine z12 ?_ | refine z3 ?_ | refine z16 ?_ | refine z11 ?_ | refine z4 ?_)
          refine ⟨rfl, a + 1, ?_, .inr (by omega), by omega⟩
          rw [hX]
          refine z19 [] ?_ ?_ rfl rfl <;> simp [lessT, lessM, lessB, AV.less]
          all_goals first | done | rfl
        | succ j =>
          have w1 : IntKind.i64.wrap (((j + 1 : Nat) : Int) - 1) = (j : Int) := by rw [z23 (by omega)]; omega
          have d1 : decide (((j + 1 : Nat) : Int) > 0) = true := decide_eq_true (by omega)
          have n1 : ¬ (((j + 1 : Nat) : Int) < 0) := by omega
          have n0 : ¬ ((j : Int) < 0) := by omega
          have k1 : j + 1 < cur.length := by omega
          have k0 : j < cur.length := by omega
          have g1 := z92 (L := cur) (i := j + 1) (by omega)
          have g0 := z92 (L := cur) (i := j) (by omega)
          obtain ⟨x, hx⟩ : ∃ x, cur.getD (j + 1) 0 = x := ⟨_, rfl⟩
          obtain ⟨y, hy⟩ : ∃ y, cur.getD j 0 = y := ⟨_, rfl⟩
          have hxm : x ∈ cur := by
            rw [← hx, List.getD, List.getElem?_eq_getElem (by omega : j + 1 < cur.length)]
            exact List.getElem_mem _
          have hym : y ∈ cur := by
            rw [← hy, List.getD, List.getElem?_eq_getElem (by omega : j < cur.length)]
            exact List.getElem_mem _
          rw [hx] at g1
          rw [hy] at g0
          have hc := hcmp x y (hcx x hxm) (hcx y hym)
          have hfx : (batAt k x).last = f x := by rw [hf]
          have hfy : (batAt k y).last = f y := by rw [hf]
          rw [hfx, hfy] at hc
          rw [sinkN, hx, hy] at hsk
          have hd := hcm (f x) (f y)
          obtain ⟨cv, hcv⟩ : ∃ cv, cv = cmpI (f x) (f y) := ⟨_, rfl⟩
          rw [← hcv] at hc hd
          by_cases hlt2 : f x < f y
          · rw [if_pos hlt2] at hsk
            rw [decide_eq_true hlt2] at hd
            obtain ⟨C1, hC1⟩ : ∃ C1, C1 = cur.set (j + 1) y := ⟨_, rfl⟩
            have su1 : (natRows cur).set (j + 1) [.i (y : Int)] = natRows C1 := by rw [z259, hC1]
            have hC1l : C1.length = cur.length := by rw [hC1]; simp
            have g2 : (natRows C1)[j]? = some [.i (y : Int)] := by
              have := z92 (L := C1) (i := j) (by omega)
              rw [this, hC1, List.getD, List.getElem?_set_ne (by omega), ← List.getD, hy]
            have su2 : (natRows C1).set j [.i (x : Int)] = natRows (swapN cur j) := by rw [z259, hC1, swapN, hx, hy]
            simp (maxSteps := 4000000) only [go_sem]
            repeat (first | refine z14 ?_ | refine z9 ?_ | refine z7 ?_ | (refine z5 fun K hK => ?_; simp (maxSteps := 4000000) only [go_sem]; refine hK _ ?_; clear hK K) | refine z13 ?_ | refine z15 ?_ | refine z10 ?_ | refine z8 ?_ | refine z6 rfl ?_ | refine z12 ?_ | refine z3 ?_ | refine z16 ?_ | refine z11 ?_ | refine z4 ?_)
            refine z24 (by kernel_rfl) (by kernel_rfl) fun K hK => ?_
            simp (maxSteps := 4000000) only [go_sem, d1, w1, n1, n0, k1, k0, g1, g0]
            refine ⟨_, .fn (hf := hc) (hd := rfl) (hr := .inl rfl), ?_⟩
            simp (maxSteps := 4000000) only [go_sem, hd]
            refine ⟨by kernel_rfl, hK _ ?_⟩
            clear hK K
            refine z18 rfl ?_
            repeat (first | refine z14 ?_ | refine z9 ?_ | refine z7 ?_ | (refine z5 fun K hK => ?_; simp (maxSteps := 4000000) only [go_sem]; refine hK _ ?_; clear hK K) | refine z13 ?_ | refine z15 ?_ | refine z10 ?_ | refine z8 ?_ | refine z6 rfl ?_ | refine z12 ?_ | refine z3 ?_ | refine z16 ?_ | refine z11 ?_ | refine z4 ?_)
            have k2 : j < C1.length := by omega
            refine z24 (by kernel_rfl) (by kernel_rfl) fun K hK => ?_
            simp (maxSteps := 4000000) only [go_sem, w1, n1, n0, k1, k0, k2, g1, g0, su1, g2, su2]
            refine ⟨by kernel_rfl, hK _ ?_⟩
            clear hK K
            repeat (first | refine z14 ?_ | refine z9 ?_ | refine z7 ?_ | (refine z5 fun K hK => ?_; simp (maxSteps := 4000000) only [go_sem, w1]; refine hK _ ?_; clear hK K) | refine z13 ?_ | refine z15 ?_ | refine z10 ?_ | refine z8 ?_ | refine z6 rfl ?_ | refine z12 ?_ | refine z3 ?_ | refine z16 ?_ | refine z11 ?_ | refine z4 ?_)
            refine ⟨rfl, (j, swapN cur j), ?_, ⟨by dsimp only; omega, by dsimp only; rw [z136]; exact hcl, fun z hz => hcx z (z246 (by omega) hz), hsk⟩, by dsimp only; omega⟩
            refine z19 [] ?_ ?_ rfl rfl <;> simp [lessT, lessM, lessB, AV.less]
            all_goals first | done | rfl
          · rw [if_neg hlt2] at hsk
            rw [decide_eq_false hlt2] at hd
            have hX : cur = insN f L (a + 1) := by rw [hnx, ← hsk]
            simp (maxSteps := 4000000) only [go_sem]
            repeat (first | refine z14 ?_ | refine z9 ?_ | refine z7 ?_ | (refine z5 fun K hK => ?_; simp (maxSteps := 4000000) only [go_sem]; refine hK _ ?_; clear hK K) | refine z13 ?_ | refine z15 ?_ | refine z10 ?_ | refine z8 ?_ | refine z6 rfl ?_ | refine z12 ?_ | refine z3 ?_ | refine z16 ?_ | refine z11 ?_ | refine z4 ?_)
            refine z24 (by kernel_rfl) (by kernel_rfl) fun K hK => ?_
            simp (maxSteps := 4000000) only [go_sem, d1, w1, n1, n0, k1, k0, g1, g0]
            refine ⟨_, .fn (hf := hc) (hd := rfl) (hr := .inl rfl), ?_⟩
            simp (maxSteps := 4000000) only [go_sem, hd]
            refine ⟨by kernel_rfl, hK _ ?_⟩
            clear hK K
            repeat (first | refine z18 rfl ?_ | refine z17 rfl ?_ | refine z14 ?_ | refine z9 ?_ | refine z7 ?_ | (refine z5 fun K hK => ?_; simp (maxSteps := 4000000) only [go_sem, hw]; refine hK _ ?_; clear hK K) | refine z13 ?_ | refine z15 ?_ | refine z10 ?_ | refine z8 ?_ | refine z6 rfl ?_ | refine z12 ?_ | refine z3 ?_ | refine z16 ?_ | refine z11 ?_ | refine z4 ?_)
            refine ⟨rfl, a + 1, ?_, .inr (by omega), by omega⟩
            rw [← hX]
            refine z19 [] ?_ ?_ rfl rfl <;> simp [lessT, lessM, lessB, AV.less]
            all_goals first | done | rfl
    · have he : a = L.length - 1 := by (have : ¬ a + 1 < L.length := by intro h; have := decide_eq_true (p := ((a + 1 : Nat) : Int) < (L.length : Int)) (by omega); rw [this] at hb; cases hb); omega
      subst he
      repeat (first | refine z14 ?_ | refine z9 ?_ | refine z7 ?_ | (refine z5 fun K hK => ?_; simp (maxSteps := 4000000) only [go_sem]; refine hK _ ?_; clear hK K) | refine z13 ?_ | refine z15 ?_ | refine z10 ?_ | refine z8 ?_ | refine z6 rfl ?_ | refine z12 ?_ | refine z3 ?_ | refine z16 ?_ | refine z11 ?_ | refine z4 ?_)
      simp (maxSteps := 4000000) only [go_sem, retG]
end Go.Ab
namespace Go.Ab
open Go.RowKit Go.Proofs
set_option maxHeartbeats 8000000
set_option maxRecDepth 20000
attribute [local irreducible] WalkL Walk
def sortK (k : Kitchen) (L : List Nat) : List Nat := insN (fun i => (batAt k i).last) L (L.length - 1)
theorem natRows_flat (L : List Nat) : rowsFlat (natRows L) := by
  intro r hr d hd
  obtain ⟨x, _, rfl⟩ := List.mem_map.1 hr
  rw [List.mem_singleton.1 hd]
  rfl
theorem zf118 (k : Kitchen) (L : List Nat) (hL : ∀ x ∈ L, x < k.batches.length) (hl : L.length ≤ 10) :
    FnG Tryz.prog 118 [.arr 3 1 (natRows L)] [0] [.own 0, .d (.i (L.length : Int)), .d (.fn 80 [.ptr k.cells 0])] (.tup []) [.arr 3 1 (natRows (sortK k L))] := by
  have h := zf156 k L hL (by omega)
  change FnG Tryz.prog 156 _ _ _ _ [.arr 3 1 (natRows (sortK k L))] at h
  rw [Kitchen.cells] at h ⊢
  have d1 : decide ((20 : Int) ≤ (L.length : Int)) = false := decide_eq_false (by omega)
  have d2 : decide ((20 : Int) < (L.length : Int)) = false := decide_eq_false (by omega)
  obtain ⟨S, hS⟩ : ∃ S, S = sortK k L := ⟨_, rfl⟩
  rw [← hS] at h ⊢
  refine z87 63 Tryz.call118 Tryz.func118 rfl (by decide) [] [(0, 0)] (by simp only [List.length_cons, List.length_nil]; decide) (by kernel_rfl) fun J => ?_
  simp (maxSteps := 4000000) only [go_sem, St.startG, Tryz.ntmps118, Tryz.results118, List.map_cons, List.map_nil, List.range_succ]
  repeat (first | refine z14 ?_ | refine z9 ?_ | refine z7 ?_ | (refine z5 fun K hK => ?_; simp (maxSteps := 4000000) only [go_sem]; refine hK _ ?_; clear hK K) | refine z13 ?_ | refine z15 ?_ | refine z10 ?_ | refine z8 ?_ | refine z6 rfl ?_ | refine z12 ?_ | refine z3 ?_ | refine z16 ?_ | refine z11 ?_ | refine z4 ?_)
  refine z22 (fun (_ : Unit) => [(7, .d (.i 0)), (8, .d (.i 20))]) (fun _ => []) (fun _ => True) (fun _ => 0) () ?_ trivial ?_
  · simp (maxSteps := 4000000) only [go_sem]
    refine z19 [] ?_ ?_ rfl rfl <;> simp [lessT, lessM, lessB, AV.less]
  · intro _ _
    simp (maxSteps := 4000000) only [go_sem]
    repeat (first | refine z18 rfl ?_ | refine z17 rfl ?_ | refine z14 ?_ | refine z9 ?_ | refine z7 ?_ | (refine z5 fun K hK => ?_; simp (maxSteps := 4000000) only [go_sem, d1]; refine hK _ ?_; clear hK K) | refine z13 ?_ | refine z15 ?_ | refine z10 ?_ | refine z8 ?_ | refine z6 rfl ?_ | refine z12 ?_ | refine z3 ?_ | refine z16 ?_ | refine z11 ?_ | refine z4 ?_)
    refine z5 fun K hK => ?_
    simp (maxSteps := 4000000) only [go_sem]
    refine ⟨_, .own (ns := [63]) (news := []) (bads := []) (rd := []) (hf := h) (hnd := by decide) (hl0 := rfl) (hl1 := rfl) (hm := by repeat (first | exact trivial | refine And.intro ?_ ?_ | rfl)) (hnew := rfl) (hla := rfl) (ha := z47 (by repeat (first | exact trivial | refine And.intro ?_ ?_ | exact z49 rfl | exact z42 rfl rfl))) (hrd := rfl) (hsh := z43 _) (hb := rfl) (hfl := .inl rfl), ?_⟩
    simp (maxSteps := 4000000) only [go_sem, List.map_cons, List.map_nil]
    refine hK _ ?_
    clear hK K
    repeat (first | refine z14 ?_ | refine z9 ?_ | refine z7 ?_ | (refine z5 fun K hK => ?_; simp (maxSteps := 4000000) only [go_sem]; refine hK _ ?_; clear hK K) | refine z13 ?_ | refine z15 ?_ | refine z10 ?_ | refine z8 ?_ | refine z6 rfl ?_ | refine z12 ?_ | refine z3 ?_ | refine z16 ?_ | refine z11 ?_ | refine z4 ?_)
    refine z22 (fun (_ : Unit) => [(6, .d (.i 20))]) (fun _ => [(63, some (.arr 3 1 (natRows S)))]) (fun _ => True) (fun _ => 0) () ?_ trivial ?_
    · simp (maxSteps := 4000000) only [go_sem]
      refine z19 [] ?_ ?_ rfl rfl <;> simp [lessT, lessM, lessB, AV.less]
    · intro _ _
      simp (maxSteps := 4000000) only [go_sem]
      repeat (first | refine z18 rfl ?_ | refine z17 rfl ?_ | refine z14 ?_ | refine z9 ?_ | refine z7 ?_ | (refine z5 fun K hK => ?_; simp (maxSteps := 4000000) only [go_sem, d2]; refine hK _ ?_; clear hK K) | refine z13 ?_ | refine z15 ?_ | refine z10 ?_ | refine z8 ?_ | refine z6 rfl ?_ | refine z12 ?_ | refine z3 ?_ | refine z16 ?_ | refine z11 ?_ | refine z4 ?_)
      simp (maxSteps := 4000000) only [go_sem, retG]
theorem zf79 (k : Kitchen) (L : List Nat) (hL : ∀ x ∈ L, x < k.batches.length) (hl : L.length ≤ 10) :
    FnG Tryz.prog 79 [.arr 3 1 (natRows L)] [0] [.own 0, .d (.fn 80 [.ptr k.cells 0])] (.tup []) [.arr 3 1 (natRows (sortK k L))] := by
  have h := zf118 k L hL hl
  rw [Kitchen.cells] at h ⊢
  obtain ⟨S, hS⟩ : ∃ S, S = sortK k L := ⟨_, rfl⟩
  rw [← hS] at h ⊢
  refine z87 9 Tryz.call79 Tryz.func79 rfl (by decide) [] [(0, 0)] (by simp only [List.length_cons, List.length_nil]; decide) (by kernel_rfl) fun J => ?_
  simp (maxSteps := 4000000) only [go_sem, St.startG, Tryz.ntmps79, Tryz.results79, List.map_cons, List.map_nil, List.range_succ]
  repeat (first | refine z14 ?_ | refine z9 ?_ | refine z7 ?_ | (refine z5 fun K hK => ?_; simp (maxSteps := 4000000) only [go_sem]; refine hK _ ?_; clear hK K) | refine z13 ?_ | refine z15 ?_ | refine z10 ?_ | refine z8 ?_ | refine z6 rfl ?_ | refine z12 ?_ | refine z3 ?_ | refine z16 ?_ | refine z11 ?_ | refine z4 ?_)
  refine z5 fun K hK => ?_
  simp (maxSteps := 4000000) only [go_sem]
  refine ⟨_, .own (ns := [9]) (news := []) (bads := []) (rd := []) (hf := h) (hnd := by decide) (hl0 := rfl) (hl1 := rfl) (hm := by repeat (first | exact trivial | refine And.intro ?_ ?_ | rfl)) (hnew := rfl) (hla := rfl) (ha := z47 (by repeat (first | exact trivial | refine And.intro ?_ ?_ | exact z49 rfl | exact z42 rfl rfl))) (hrd := rfl) (hsh := z43 _) (hb := rfl) (hfl := .inl rfl), ?_⟩
  simp (maxSteps := 4000000) only [go_sem, List.map_cons, List.map_nil]
  refine hK _ ?_
  clear hK K
  repeat (first | refine z14 ?_ | refine z9 ?_ | refine z7 ?_ | (refine z5 fun K hK => ?_; simp (maxSteps := 4000000) only [go_sem]; refine hK _ ?_; clear hK K) | refine z13 ?_ | refine z15 ?_ | refine z10 ?_ | refine z8 ?_ | refine z6 rfl ?_ | refine z12 ?_ | refine z3 ?_ | refine z16 ?_ | refine z11 ?_ | refine z4 ?_)
  simp (maxSteps := 4000000) only [go_sem, retG]
def amtK (k : Kitchen) : List Int := k.batches.map (·.amount)
def lardRow (k : Kitchen) (l o : AV) (w : Int) : List AV := [.d (.sl (intRows k.allerg)), .d (.sl (batRows k.batches)), .d (.sl (dishRows k.dishes)), .d (.sl (dayRows k.days)), l, o, .d (.i w)]
theorem zf42 (k : Kitchen) (hb : k.batches.length ≤ 10) : FnG Tryz.prog 42 [] [] [.d (.agg k.cells)] (.box 0 0) [.box (lardRow k (.own 1) (.own 2) 0), .arr 3 1 (intRows (amtK k)), .arr 3 1 (natRows (ordK k))] := by
  have h := zf79 k (List.range k.batches.length) (fun x hx => List.mem_range.1 hx) (by simpa using hb)
  have hord : sortK k (List.range k.batches.length) = ordK k := by rw [sortK, ordK, List.length_range]
  rw [hord] at h
  obtain ⟨O, hO⟩ : ∃ O, O = ordK k := ⟨_, rfl⟩
  rw [← hO] at h ⊢
  rw [Kitchen.cells] at h
  refine z87 47 Tryz.call42 Tryz.func42 rfl (by decide) [8, 26, 36] [] (by simp only [List.length_cons, List.length_nil]; decide) (by kernel_rfl) fun J => ?_
  simp (maxSteps := 4000000) only [go_sem, St.startG, Tryz.ntmps42, Tryz.results42, List.map_cons, List.map_nil, List.range_succ,  Kitchen.cells, lardRow]
  repeat (first | refine z14 ?_ | refine z9 ?_ | refine z7 ?_ | (refine z5 fun K hK => ?_; simp (maxSteps := 4000000) only [go_sem]; refine hK _ ?_; clear hK K) | refine z13 ?_ | refine z15 ?_ | refine z10 ?_ | refine z8 ?_ | refine z6 rfl ?_ | refine z12 ?_ | refine z3 ?_ | refine z16 ?_ | refine z11 ?_ | refine z4 ?_)
  refine z22 (fun (i : Nat) => [(13, .d (.i (i : Int)))]) (fun i => [(8, some (.box (lardRow k (.own 26) (.own 36) 0))), (26, some (.arr 3 1 (intRows ((amtK k).take i)))), (36, some (.arr 3 1 (natRows (List.range i))))]) (fun i => i ≤ k.batches.length) (fun i => k.batches.length - i) 0 ?_ (Nat.zero_le _) ?_
  · simp (maxSteps := 4000000) only [go_sem, lardRow]
    refine z19 [26, 36] ?_ ?_ rfl rfl <;> simp [lessT, lessM, lessB, AV.less]
    all_goals first | done | rfl | exact ⟨rfl, rfl⟩ | trace_state
  · intro i hi
    simp (maxSteps := 4000000) only [go_sem, lardRow]
    repeat (first | refine z14 ?_ | refine z9 ?_ | refine z7 ?_ | (refine z5 fun K hK => ?_; simp (maxSteps := 4000000) only [go_sem]; refine hK _ ?_; clear hK K) | refine z13 ?_ | refine z15 ?_ | refine z10 ?_ | refine z8 ?_ | refine z6 rfl ?_ | refine z12 ?_ | refine z3 ?_ | refine z16 ?_ | refine z11 ?_ | refine z4 ?_)
    refine z20 rfl (fun hb2 => ?_) (fun hb2 => ?_)
    · have hlt : i < k.batches.length := by simpa using hb2
      have hw : IntKind.i64.wrap ((i : Int) + 1) = ((i + 1 : Nat) : Int) := by rw [z23 (by omega)]; simp
      have gb := z285 hlt
      rw [Batch.row] at gb
      obtain ⟨A, hA⟩ : ∃ A, A = (amtK k).take i := ⟨_, rfl⟩
      have hAl : A.length ≤ 10 := by rw [hA]; simp; omega
      have hn : A.length + 1 ≤ 549755813888 := by omega
      have hn2 : i + 1 ≤ 549755813888 := by omega
      have e1 : (amtK k).take (i + 1) = A ++ [(batAt k i).amount] := by
        obtain ⟨x, hx⟩ : ∃ x, k.batches[i]? = some x := ⟨_, List.getElem?_eq_getElem hlt⟩
        have hx2 : (amtK k)[i]? = some x.amount := by simp [amtK, hx]
        rw [List.take_add_one, hx2, ← hA, batAt, List.getD, hx]
        rfl
      have s1 : intRows A ++ [[.i (batAt k i).amount]] = intRows ((amtK k).take (i + 1)) := by rw [e1]; simp [intRows]
      have s2 : natRows (List.range i) ++ [[.i (i : Int)]] = natRows (List.range (i + 1)) := by rw [List.range_succ]; simp [natRows]
      rw [← hA]
      repeat (first | refine z14 ?_ | refine z9 ?_ | refine z7 ?_ | (refine z5 fun K hK => ?_; simp (maxSteps := 4000000) only [go_sem, gb]; refine hK _ ?_; clear hK K) | refine z13 ?_ | refine z15 ?_ | refine z10 ?_ | refine z8 ?_ | refine z6 rfl ?_ | refine z12 ?_ | refine z3 ?_ | refine z16 ?_ | refine z11 ?_ | refine z4 ?_)
      refine z135 (by kernel_rfl) (by kernel_rfl) fun K hK => ?_
      simp (maxSteps := 4000000) only [go_sem, hn, s1]
      refine ⟨by kernel_rfl, hK _ ?_⟩
      clear hK K
      repeat (first | refine z14 ?_ | refine z9 ?_ | refine z7 ?_ | (refine z5 fun K hK => ?_; simp (maxSteps := 4000000) only [go_sem, hn2, List.length_range, s2, hw]; refine hK _ ?_; clear hK K) | refine z13 ?_ | refine z15 ?_ | refine z10 ?_ | refine z8 ?_ | refine z6 rfl ?_ | refine z12 ?_ | refine z3 ?_ | refine z16 ?_ | refine z11 ?_ | refine z4 ?_)
      refine ⟨rfl, i + 1, ?_, hlt, by omega⟩
      simp (maxSteps := 4000000) only [go_sem, lardRow]
      refine z19 [] ?_ ?_ rfl rfl <;> simp [lessT, lessM, lessB, AV.less]
      all_goals first | done | rfl | exact ⟨rfl, rfl⟩ | trace_state
    · have he : i = k.batches.length := by (have : ¬ i < k.batches.length := by simpa using hb2); omega
      subst he
      have e1 : (amtK k).take k.batches.length = amtK k := by rw [amtK, List.take_of_length_le (by simp)]
      rw [e1]
      repeat (first | refine z14 ?_ | refine z9 ?_ | refine z7 ?_ | (refine z5 fun K hK => ?_; simp (maxSteps := 4000000) only [go_sem]; refine hK _ ?_; clear hK K) | refine z13 ?_ | refine z15 ?_ | refine z10 ?_ | refine z8 ?_ | refine z6 rfl ?_ | refine z12 ?_ | refine z3 ?_ | refine z16 ?_ | refine z11 ?_ | refine z4 ?_)
      refine z5 fun K hK => ?_
      simp (maxSteps := 4000000) only [go_sem]
      refine ⟨_, .own (ns := [36]) (news := []) (bads := []) (rd := [1]) (hf := h) (hnd := by decide) (hl0 := rfl) (hl1 := rfl) (hm := by repeat (first | exact trivial | refine And.intro ?_ ?_ | rfl)) (hnew := rfl) (hla := rfl) (ha := z47 (by repeat (first | exact trivial | refine And.intro ?_ ?_ | exact z49 rfl | exact z42 rfl rfl))) (hrd := rfl) (hsh := by intro n hn row hrow k hk; simp at hn; subst hn; simp at hrow; subst hrow; simp [AV.refs, AV.refs.AV.refss] at hk) (hb := rfl) (hfl := .inr ⟨rfl, by simp only [List.all_cons, List.all_nil, Bool.and_true]; exact flatB_int (natRows_flat _)⟩), ?_⟩
      simp (maxSteps := 4000000) only [go_sem, List.map_cons, List.map_nil]
      refine hK _ ?_
      clear hK K
      repeat (first | refine z14 ?_ | refine z9 ?_ | refine z7 ?_ | (refine z5 fun K hK => ?_; simp (maxSteps := 4000000) only [go_sem]; refine hK _ ?_; clear hK K) | refine z13 ?_ | refine z15 ?_ | refine z10 ?_ | refine z8 ?_ | refine z6 rfl ?_ | refine z12 ?_ | refine z3 ?_ | refine z16 ?_ | refine z11 ?_ | refine z4 ?_)
      simp (maxSteps := 4000000) only [go_sem, retG, lardRow]
end Go.Ab
namespace Go.Ab
open Go.RowKit Go.Proofs
set_option maxHeartbeats 8000000
set_option maxRecDepth 20000
attribute [local irreducible] WalkL Walk
theorem zf96 (l : List Int) (hl : l.length < 2 ^ 30) : FnS Tryz.prog 96 [.sl (intRows l)] 3 1 (intRows l) := by
  have h1 : l.length ≤ 549755813888 := by omega
  have h2 : 0 + l.length ≤ 549755813888 := by omega
  cases l with
  | nil =>
    have e : intRows [] = [] := rfl
    rw [e]
    refine z126 8 Tryz.call96 Tryz.func96 rfl (by decide) fun J => ?_
    simp (maxSteps := 4000000) only [go_sem, St.start, Tryz.ntmps96, Tryz.results96]
    repeat (first | refine z14 ?_ | refine z9 ?_ | refine z7 ?_ | (refine z5 fun K hK => ?_; simp (maxSteps := 4000000) only [go_sem, List.isEmpty_nil]; refine hK _ ?_; clear hK K) | refine z13 ?_ | refine z15 ?_ | refine z10 ?_ | refine z8 ?_ | refine z6 rfl ?_ | refine z12 ?_ | refine z3 ?_ | refine z16 ?_ | refine z11 ?_ | refine z4 ?_)
    refine walkL_any rfl ?_ ?_
    · repeat (first | refine z14 ?_ | refine z9 ?_ | refine z7 ?_ | (refine z5 fun K hK => ?_; simp (maxSteps := 4000000) only [go_sem]; refine hK _ ?_; clear hK K) | refine z13 ?_ | refine z15 ?_ | refine z10 ?_ | refine z8 ?_ | refine z6 rfl ?_ | refine z12 ?_ | refine z3 ?_ | refine z16 ?_ | refine z11 ?_ | refine z4 ?_)
      simp (maxSteps := 4000000) only [go_sem]
    · repeat (first | refine z14 ?_ | refine z9 ?_ | refine z7 ?_ | (refine z5 fun K hK => ?_; simp (maxSteps := 4000000) only [go_sem, List.nil_append, List.length_nil]; refine hK _ ?_; clear hK K) | refine z13 ?_ | refine z15 ?_ | refine z10 ?_ | refine z8 ?_ | refine z6 rfl ?_ | refine z12 ?_ | refine z3 ?_ | refine z16 ?_ | refine z11 ?_ | refine z4 ?_)
      simp (maxSteps := 4000000) only [go_sem]
  | cons x l =>
    have hne : (intRows (x :: l)).isEmpty = false := rfl
    obtain ⟨L, hL⟩ : ∃ L, L = x :: l := ⟨_, rfl⟩
    rw [← hL] at hne h1 h2 ⊢
    refine z126 8 Tryz.call96 Tryz.func96 rfl (by decide) fun J => ?_
    simp (maxSteps := 4000000) only [go_sem, St.start, Tryz.ntmps96, Tryz.results96]
    repeat (first | refine z14 ?_ | refine z9 ?_ | refine z7 ?_ | (refine z5 fun K hK => ?_; simp (maxSteps := 4000000) only [go_sem, hne]; refine hK _ ?_; clear hK K) | refine z13 ?_ | refine z15 ?_ | refine z10 ?_ | refine z8 ?_ | refine z6 rfl ?_ | refine z12 ?_ | refine z3 ?_ | refine z16 ?_ | refine z11 ?_ | refine z4 ?_)
    refine z17 rfl ?_
    repeat (first | refine z14 ?_ | refine z9 ?_ | refine z7 ?_ | (refine z5 fun K hK => ?_; simp (maxSteps := 4000000) only [go_sem, h1, h2, List.nil_append, List.length_nil]; refine hK _ ?_; clear hK K) | refine z13 ?_ | refine z15 ?_ | refine z10 ?_ | refine z8 ?_ | refine z6 rfl ?_ | refine z12 ?_ | refine z3 ?_ | refine z16 ?_ | refine z11 ?_ | refine z4 ?_)
    simp (maxSteps := 4000000) only [go_sem]
def dinAt (k : Kitchen) (day group : Nat) : Diners := (k.days.getD day []).getD group ⟨0, ⟨0, 0⟩⟩
theorem day_at {k : Kitchen} {day : Nat} (h : day < k.days.length) : (dayRows k.days)[day]? = some [.sl (dinRows (k.days.getD day []))] := by
  obtain ⟨x, hx⟩ : ∃ x, k.days[day]? = some x := ⟨_, List.getElem?_eq_getElem h⟩
  rw [z77 hx, List.getD, hx]
  rfl
theorem din_at {k : Kitchen} {day group : Nat} (h : group < (k.days.getD day []).length) : (dinRows (k.days.getD day []))[group]? = some (dinAt k day group).row := by
  unfold dinAt
  obtain ⟨D, hD⟩ : ∃ D, D = k.days.getD day [] := ⟨_, rfl⟩
  rw [← hD] at h ⊢
  obtain ⟨x, hx⟩ : ∃ x, D[group]? = some x := ⟨_, List.getElem?_eq_getElem h⟩
  rw [z114 hx, List.getD, hx]
  rfl
theorem zf44 (k : Kitchen) (day group : Nat) (hd : day < k.days.length) (hg : group < (k.days.getD day []).length) : Fn Tryz.prog 44 [.agg k.cells, .i (day : Int), .i (group : Int)] (.i (dinAt k day group).count.hi) := by
  have g1 := day_at hd
  have g2 := din_at hg
  have n1 : ¬ ((day : Int) < 0) := by omega
  have n2 : ¬ ((group : Int) < 0) := by omega
  rw [Diners.row] at g2
  refine z21 18 Tryz.call44 Tryz.func44 rfl (by decide) fun J => ?_
  simp (maxSteps := 4000000) only [go_sem, St.start, Tryz.ntmps44, Tryz.results44, Kitchen.cells]
  repeat (first | refine z14 ?_ | refine z9 ?_ | refine z7 ?_ | (refine z5 fun K hK => ?_; simp (maxSteps := 4000000) only [go_sem, g1, g2, n1, n2]; refine hK _ ?_; clear hK K) | refine z13 ?_ | refine z15 ?_ | refine z10 ?_ | refine z8 ?_ | refine z6 rfl ?_ | refine z12 ?_ | refine z3 ?_ | refine z16 ?_ | refine z11 ?_ | refine z4 ?_)
  simp (maxSteps := 4000000) only [go_sem]
theorem zf45 (k : Kitchen) (day group : Nat) (hd : day < k.days.length) (hg : group < (k.days.getD day []).length) : Fn Tryz.prog 45 [.agg k.cells, .i (day : Int), .i (group : Int)] (.i (dinAt k day group).count.lo) := by
  have g1 := day_at hd
  have g2 := din_at hg
  have n1 : ¬ ((day : Int) < 0) := by omega
  have n2 : ¬ ((group : Int) < 0) := by omega
  rw [Diners.row] at g2
  refine z21 18 Tryz.call45 Tryz.func45 rfl (by decide) fun J => ?_
  simp (maxSteps := 4000000) only [go_sem, St.start, Tryz.ntmps45, Tryz.results45, Kitchen.cells]
  repeat (first | refine z14 ?_ | refine z9 ?_ | refine z7 ?_ | (refine z5 fun K hK => ?_; simp (maxSteps := 4000000) only [go_sem, g1, g2, n1, n2]; refine hK _ ?_; clear hK K) | refine z13 ?_ | refine z15 ?_ | refine z10 ?_ | refine z8 ?_ | refine z6 rfl ?_ | refine z12 ?_ | refine z3 ?_ | refine z16 ?_ | refine z11 ?_ | refine z4 ?_)
  simp (maxSteps := 4000000) only [go_sem]
def clrTo (k : Kitchen) (day : Int) (l : List Int) (w : Int) : Nat → List Int × Int
  | 0 => (l, w)
  | j + 1 => if (batAt k j).last < day then ((clrTo k day l w j).1.set j 0, (clrTo k day l w j).2 + getI (clrTo k day l w j).1 (j : Int)) else clrTo k day l w j
theorem z55 (k : Kitchen) (day : Int) (l : List Int) (w : Int) : ∀ j, (clrTo k day l w j).1.length = l.length
  | 0 => rfl
  | j + 1 => by
    rw [clrTo]
    split
    · simp [z55 k day l w j]
    · exact z55 k day l w j
def AmtOk (l : List Int) : Prop := ∀ x ∈ l, 0 ≤ x ∧ x ≤ 1000000
theorem AmtOk.get {l : List Int} (h : AmtOk l) (i : Int) : 0 ≤ getI l i ∧ getI l i ≤ 1000000 := z124 h (by decide) i
theorem AmtOk.set {l : List Int} (h : AmtOk l) (i : Nat) {x : Int} (hx : 0 ≤ x ∧ x ≤ 1000000) : AmtOk (l.set i x) := fun y hy => by
  rcases List.mem_or_eq_of_mem_set hy with hy | rfl
  · exact h y hy
  · exact hx
theorem z80 {k : Kitchen} {day : Int} {l : List Int} {w : Int} (h : AmtOk l) : ∀ j, AmtOk (clrTo k day l w j).1 ∧ w ≤ (clrTo k day l w j).2 ∧ (clrTo k day l w j).2 ≤ w + 1000000 * j
  | 0 => ⟨h, Int.le_refl _, by simp [clrTo]⟩
  | j + 1 => by
    obtain ⟨h1, h2, h3⟩ := z80 (k := k) (day := day) (w := w) h j
    rw [clrTo]
    split
    · have := h1.get (j : Int)
      refine ⟨h1.set j (by decide), ?_, ?_⟩ <;> dsimp only <;> omega
    · exact ⟨h1, h2, by omega⟩
theorem zf46 (k : Kitchen) (hb : k.batches.length ≤ 10) (day : Int) (l : List Int) (o : List Nat) (w : Int) (hl : l.length = k.batches.length) (ha : AmtOk l) (hw0 : 0 ≤ w ∧ w ≤ 2 ^ 40) :
    FnG Tryz.prog 46 [.box (lardRow k (.own 1) (.own 2) w), .arr 3 1 (intRows l), .arr 3 1 (natRows o)] [0] [.box 0 0, .d (.i day)] (.tup [])
      [.box (lardRow k (.own 1) (.own 2) (clrTo k day l w k.batches.length).2), .arr 3 1 (intRows (clrTo k day l w k.batches.length).1), .arr 3 1 (natRows o)] := by
  have hst0 : clrTo k day l w 0 = (l, w) := rfl
  obtain ⟨R, hR⟩ : ∃ R, R = clrTo k day l w := ⟨_, rfl⟩
  have hRl : ∀ j, (R j).1.length = l.length := by rw [hR]; exact z55 k day l w
  have hRo : ∀ j, AmtOk (R j).1 ∧ w ≤ (R j).2 ∧ (R j).2 ≤ w + 1000000 * j := by rw [hR]; exact z80 ha
  have hRs : ∀ j, R (j + 1) = if (batAt k j).last < day then ((R j).1.set j 0, (R j).2 + getI (R j).1 (j : Int)) else R j := by rw [hR]; exact fun j => rfl
  rw [← hR] at hst0
  rw [show clrTo k day l w = R from hR.symm]
  refine z87 43 Tryz.call46 Tryz.func46 rfl (by decide) [] [(0, 0)] (by simp only [List.length_cons, List.length_nil]; decide) (by kernel_rfl) fun J => ?_
  simp (maxSteps := 4000000) only [go_sem, St.startG, Tryz.ntmps46, Tryz.results46, List.map_cons, List.map_nil, List.range_succ,  lardRow]
  repeat (first | refine z14 ?_ | refine z9 ?_ | refine z7 ?_ | (refine z5 fun K hK => ?_; simp (maxSteps := 4000000) only [go_sem]; refine hK _ ?_; clear hK K) | refine z13 ?_ | refine z15 ?_ | refine z10 ?_ | refine z8 ?_ | refine z6 rfl ?_ | refine z12 ?_ | refine z3 ?_ | refine z16 ?_ | refine z11 ?_ | refine z4 ?_)
  refine z22 (fun (i : Nat) => [(13, .d (.i (i : Int)))]) (fun i => [(43, some (.box (lardRow k (.own 44) (.own 45) (R i).2))), (44, some (.arr 3 1 (intRows (R i).1)))]) (fun i => i ≤ k.batches.length) (fun i => k.batches.length - i) 0 ?_ (Nat.zero_le _) ?_
  · rw [hst0]
    simp (maxSteps := 4000000) only [go_sem, lardRow]
    refine z19 [] ?_ ?_ rfl rfl <;> simp [lessT, lessM, lessB, AV.less]
    all_goals first | done | rfl | trace_state
  · intro i hi
    have hAl := hRl i
    obtain ⟨hok, hw1, hw2⟩ := hRo i
    have hnx := hRs i
    obtain ⟨⟨A, v⟩, hAv⟩ : ∃ p, R i = p := ⟨_, rfl⟩
    rw [hAv] at hAl hok hw1 hw2 hnx ⊢
    dsimp only at hAl hok hw1 hw2 hnx ⊢
    simp (maxSteps := 4000000) only [go_sem, lardRow]
    repeat (first | refine z14 ?_ | refine z9 ?_ | refine z7 ?_ | (refine z5 fun K hK => ?_; simp (maxSteps := 4000000) only [go_sem]; refine hK _ ?_; clear hK K) | refine z13 ?_ | refine z15 ?_ | refine z10 ?_ | refine z8 ?_ | refine z6 rfl ?_ | refine z12 ?_ | refine z3 ?_ | refine z16 ?_ | refine z11 ?_ | refine z4 ?_)
    refine z20 rfl (fun hb2 => ?_) (fun hb2 => ?_)
    · have hlt : i < k.batches.length := by simpa using hb2
      have hw : IntKind.i64.wrap ((i : Int) + 1) = ((i + 1 : Nat) : Int) := by rw [z23 (by omega)]; simp
      have gb := z285 hlt
      rw [Batch.row] at gb
      have hni : ¬ ((i : Int) < 0) := by omega
      have hiA : i < A.length := by omega
      have gA := z33 hiA
      have hg := hok.get (i : Int)
      have e1 : IntKind.i64.wrap (v + getI A (i : Int)) = v + getI A (i : Int) := z23 (by omega)
      have su : (intRows A).set i [.i 0] = intRows (A.set i 0) := z54 A i 0
      by_cases hq : (batAt k i).last < day
      · rw [if_pos hq] at hnx
        have d : decide ((batAt k i).last < day) = true := decide_eq_true hq
        repeat (first | refine z18 rfl ?_ | refine z17 rfl ?_ | refine z14 ?_ | refine z9 ?_ | refine z7 ?_ | (refine z5 fun K hK => ?_; simp (maxSteps := 4000000) only [go_sem, gb, d]; refine hK _ ?_; clear hK K) | refine z13 ?_ | refine z15 ?_ | refine z10 ?_ | refine z8 ?_ | refine z6 rfl ?_ | refine z12 ?_ | refine z3 ?_ | refine z16 ?_ | refine z11 ?_ | refine z4 ?_)
        refine z24 (by kernel_rfl) (by kernel_rfl) fun K hK => ?_
        simp (maxSteps := 4000000) only [go_sem, hni, hiA, gA, e1]
        refine ⟨by kernel_rfl, hK _ ?_⟩
        clear hK K
        repeat (first | refine z14 ?_ | refine z9 ?_ | refine z7 ?_ | (refine z5 fun K hK => ?_; simp (maxSteps := 4000000) only [go_sem, hni, hiA, gA, su, hw]; refine hK _ ?_; clear hK K) | refine z13 ?_ | refine z15 ?_ | refine z10 ?_ | refine z8 ?_ | refine z6 rfl ?_ | refine z12 ?_ | refine z3 ?_ | refine z16 ?_ | refine z11 ?_ | refine z4 ?_)
        refine ⟨rfl, i + 1, ?_, hlt, by omega⟩
        rw [hnx]
        simp (maxSteps := 4000000) only [go_sem, lardRow]
        refine z19 [] ?_ ?_ rfl rfl <;> simp [lessT, lessM, lessB, AV.less]
        all_goals first | done | rfl | trace_state
      · rw [if_neg hq] at hnx
        have d : decide ((batAt k i).last < day) = false := decide_eq_false hq
        repeat (first | refine z18 rfl ?_ | refine z17 rfl ?_ | refine z14 ?_ | refine z9 ?_ | refine z7 ?_ | (refine z5 fun K hK => ?_; simp (maxSteps := 4000000) only [go_sem, gb, d, hw]; refine hK _ ?_; clear hK K) | refine z13 ?_ | refine z15 ?_ | refine z10 ?_ | refine z8 ?_ | refine z6 rfl ?_ | refine z12 ?_ | refine z3 ?_ | refine z16 ?_ | refine z11 ?_ | refine z4 ?_)
        refine ⟨rfl, i + 1, ?_, hlt, by omega⟩
        rw [hnx]
        simp (maxSteps := 4000000) only [go_sem, lardRow]
        refine z19 [] ?_ ?_ rfl rfl <;> simp [lessT, lessM, lessB, AV.less]
        all_goals first | done | rfl | trace_state
    · have he : i = k.batches.length := by (have : ¬ i < k.batches.length := by simpa using hb2); omega
      subst he
      rw [hAv]
      repeat (first | refine z14 ?_ | refine z9 ?_ | refine z7 ?_ | (refine z5 fun K hK => ?_; simp (maxSteps := 4000000) only [go_sem]; refine hK _ ?_; clear hK K) | refine z13 ?_ | refine z15 ?_ | refine z10 ?_ | refine z8 ?_ | refine z6 rfl ?_ | refine z12 ?_ | refine z3 ?_ | refine z16 ?_ | refine z11 ?_ | refine z4 ?_)
      simp (maxSteps := 4000000) only [go_sem, retG, lardRow]
end Go.Ab
namespace Go.Ab
open Go.RowKit Go.Proofs
set_option maxHeartbeats 16000000
set_option maxRecDepth 20000
attribute [local irreducible] WalkL Walk
def needG (k : Kitchen) (ds : List Int) (cnt : Nat → Int) (good : Nat) : Nat → Int
  | 0 => 0
  | g + 1 => needG k ds cnt good g + getI (dishAt k (getI ds (g : Int))).needs (good : Int) * cnt g
def needL (k : Kitchen) (ds : List Int) (cnt : Nat → Int) : List Int := (List.range k.allerg.length).map fun x => needG k ds cnt x ds.length
theorem dish_need {k : Kitchen} (hg : KitGood k) {n : Nat} (h : n < k.dishes.length) (i : Int) : 0 ≤ getI (dishAt k (n : Int)).needs i ∧ getI (dishAt k (n : Int)).needs i ≤ 5000 := by
  obtain ⟨x, hx⟩ : ∃ x, k.dishes[n]? = some x := ⟨_, List.getElem?_eq_getElem h⟩
  have : dishAt k (n : Int) = x := by rw [dishAt, Int.toNat_natCast, List.getD, hx]; rfl
  rw [this]
  exact z124 (hg.needs x (List.mem_of_getElem? hx)).2 (by decide) i
structure DayOk (k : Kitchen) (ds : List Int) (cnt : Nat → Int) : Prop where
  len : ds.length ≤ 3
  dish : ∀ g < ds.length, ∃ n : Nat, ds[g]? = some (n : Int) ∧ n < k.dishes.length
  cnt : ∀ g < ds.length, 0 ≤ cnt g ∧ cnt g ≤ 100
theorem z199 {k : Kitchen} (hg : KitGood k) {ds : List Int} {cnt : Nat → Int} (hd : DayOk k ds cnt) (good : Nat) : ∀ g : Nat, g ≤ ds.length → 0 ≤ needG k ds cnt good g ∧ needG k ds cnt good g ≤ 500000 * g
  | 0, _ => by simp [needG]
  | g + 1, h => by
    have ih := z199 hg hd good g (by omega)
    obtain ⟨n, hn, hnl⟩ := hd.dish g (by omega)
    have hc := hd.cnt g (by omega)
    have e : getI ds (g : Int) = n := by rw [getI, Int.toNat_natCast, List.getD, hn]; rfl
    have q := dish_need hg hnl (good : Int)
    have m1 : 0 ≤ getI (dishAt k (n : Int)).needs (good : Int) * cnt g := Int.mul_nonneg q.1 hc.1
    have m2 : getI (dishAt k (n : Int)).needs (good : Int) * cnt g ≤ 5000 * 100 := Int.mul_le_mul q.2 hc.2 hc.1 (by decide)
    rw [needG, e]
    omega
def mixL (G : Nat) (a b : Nat → Int) (j : Nat) : List Int := (List.range G).map fun x => if x < j then b x else a x
theorem z225 (G : Nat) (a b : Nat → Int) (j : Nat) : (mixL G a b j).length = G := by simp [mixL]
theorem mixL_at (G : Nat) (a b : Nat → Int) {j : Nat} (h : j < G) : (mixL G a b j)[j]? = some (a j) := by simp [mixL, h]
theorem mixL_set (G : Nat) (a b : Nat → Int) {j : Nat} (h : j < G) : (mixL G a b j).set j (b j) = mixL G a b (j + 1) := by
  refine List.ext_getElem? fun i => ?_
  rw [List.getElem?_set, z225]
  by_cases hi : i < G
  · by_cases he : j = i
    · subst he
      rw [if_pos rfl, if_pos hi]
      simp [mixL, hi]
    · rw [if_neg he]
      have : (i < j + 1) = (i < j) := by apply propext; omega
      simp [mixL, hi, this]
  · rw [List.getElem?_eq_none (l := mixL G a b (j + 1)) (by rw [z225]; omega)]
    by_cases he : j = i
    · omega
    · rw [if_neg he, List.getElem?_eq_none (by rw [z225]; omega)]
theorem mixL_all (G : Nat) (a b : Nat → Int) : mixL G a b G = (List.range G).map b := by
  unfold mixL
  refine List.map_congr_left fun x hx => ?_
  rw [if_pos (List.mem_range.1 hx)]
theorem mixL_none (G : Nat) (a b : Nat → Int) : mixL G a b 0 = (List.range G).map a := by
  unfold mixL
  refine List.map_congr_left fun x hx => ?_
  rw [if_neg (by omega)]
theorem zf47 (k : Kitchen) (hg : KitGood k) (ds : List Int) (cnt : Nat → Int) (g : Nat) (caps : List DV) (hd : DayOk k ds cnt) (hc : ∀ j, j < ds.length → Fn Tryz.prog g (.i (j : Int) :: caps) (.i (cnt j))) :
    FnS Tryz.prog 47 [.agg k.cells, .sl (intRows ds), .fn g caps] 3 1 (intRows (needL k ds cnt)) := by
  have hgo := hg.goods
  have hdl := hd.len
  have hmk : (k.allerg.length : Int) ≤ 1099511627776 := by omega
  have hrep := z165 k.allerg.length
  unfold needL
  obtain ⟨G, hG⟩ : ∃ G, G = k.allerg.length := ⟨_, rfl⟩
  obtain ⟨f, hf⟩ : ∃ f : Nat → Nat → Int, f = fun i x => needG k ds cnt x i := ⟨_, rfl⟩
  have hf0 : intRows (List.replicate G 0) = intRows ((List.range G).map (f 0)) := by
    rw [hf]
    congr 1
    refine List.ext_getElem? fun i => ?_
    by_cases hi : i < G <;> simp [hi, needG, List.getElem?_replicate]
  have hfr : ∀ i x, i ≤ ds.length → 0 ≤ f i x ∧ f i x ≤ 500000 * i := fun i x hi => by rw [hf]; exact z199 hg hd x i hi
  have hfs : ∀ i x, f (i + 1) x = f i x + getI (dishAt k (getI ds (i : Int))).needs (x : Int) * cnt i := fun i x => by rw [hf]; rfl
  rw [show (fun x => needG k ds cnt x ds.length) = f ds.length by rw [hf]]
  rw [← hG] at hmk hrep hgo ⊢
  refine z126 51 Tryz.call47 Tryz.func47 rfl (by decide) fun J => ?_
  simp (maxSteps := 4000000) only [go_sem, St.start, Tryz.ntmps47, Tryz.results47, Kitchen.cells]
  repeat (first | refine z14 ?_ | refine z9 ?_ | refine z7 ?_ | (refine z5 fun K hK => ?_; simp (maxSteps := 4000000) only [go_sem, ← hG, hmk, hrep]; refine hK _ ?_; clear hK K) | refine z13 ?_ | refine z15 ?_ | refine z10 ?_ | refine z8 ?_ | refine z6 rfl ?_ | refine z12 ?_ | refine z3 ?_ | refine z16 ?_ | refine z11 ?_ | refine z4 ?_)
  refine z22 (fun (i : Nat) => [(19, .d (.i (i : Int)))]) (fun i => [(16, some (.arr 3 1 (intRows ((List.range G).map (f i)))))]) (fun i => i ≤ ds.length) (fun i => ds.length - i) 0 ?_ (Nat.zero_le _) ?_
  · rw [← hf0]
    simp (maxSteps := 4000000) only [go_sem]
    refine z19 [] ?_ ?_ rfl rfl <;> simp [lessT, lessM, lessB, AV.less]
    all_goals first | done | rfl | trace_state
  · intro i hi
    simp (maxSteps := 4000000) only [go_sem]
    repeat (first | refine z14 ?_ | refine z9 ?_ | refine z7 ?_ | (refine z5 fun K hK => ?_; simp (maxSteps := 4000000) only [go_sem]; refine hK _ ?_; clear hK K) | refine z13 ?_ | refine z15 ?_ | refine z10 ?_ | refine z8 ?_ | refine z6 rfl ?_ | refine z12 ?_ | refine z3 ?_ | refine z16 ?_ | refine z11 ?_ | refine z4 ?_)
    refine z20 rfl (fun hb => ?_) (fun hb => ?_)
    · have hlt : i < ds.length := by simpa using hb
      have hw : IntKind.i64.wrap ((i : Int) + 1) = ((i + 1 : Nat) : Int) := by rw [z23 (by omega)]; simp
      obtain ⟨n, hn, hnl⟩ := hd.dish i hlt
      have g1 := z48 hn
      have gd := dish_at hnl
      have hl := dish_len hg hnl
      have hnn : ¬ ((n : Int) < 0) := by omega
      have hci := hc i hlt
      have hcr := hd.cnt i hlt
      have e : getI ds (i : Int) = n := by rw [getI, Int.toNat_natCast, List.getD, hn]; rfl
      have hq := fun x : Nat => dish_need hg hnl (x : Int)
      have hfi := hfs i
      rw [e] at hfi
      obtain ⟨N, hN⟩ : ∃ N, N = (dishAt k (n : Int)).needs := ⟨_, rfl⟩
      rw [← hN, ← hG] at hl
      rw [← hN] at gd
      rw [← hN] at hq hfi
      repeat (first | refine z14 ?_ | refine z9 ?_ | refine z7 ?_ | (refine z5 fun K hK => ?_; simp (maxSteps := 4000000) only [go_sem, g1, gd, hnn, hl]; refine hK _ ?_; clear hK K) | refine z13 ?_ | refine z15 ?_ | refine z10 ?_ | refine z8 ?_ | refine z6 rfl ?_ | refine z12 ?_ | refine z3 ?_ | refine z16 ?_ | refine z11 ?_ | refine z4 ?_)
      have m0 := mixL_none G (f i) (f (i + 1))
      refine z22 (fun (j : Nat) => [(32, .d (.i (j : Int)))]) (fun j => [(16, some (.arr 3 1 (intRows (mixL G (f i) (f (i + 1)) j))))]) (fun j => j ≤ G) (fun j => G - j) 0 ?_ (Nat.zero_le _) ?_
      · rw [m0]
        simp (maxSteps := 4000000) only [go_sem]
        refine z19 [] ?_ ?_ rfl rfl <;> simp [lessT, lessM, lessB, AV.less]
        all_goals first | done | rfl | trace_state
      · intro j hj
        have hMl := z225 G (f i) (f (i + 1)) j
        simp (maxSteps := 4000000) only [go_sem]
        repeat (first | refine z14 ?_ | refine z9 ?_ | refine z7 ?_ | (refine z5 fun K hK => ?_; simp (maxSteps := 4000000) only [go_sem, hl]; refine hK _ ?_; clear hK K) | refine z13 ?_ | refine z15 ?_ | refine z10 ?_ | refine z8 ?_ | refine z6 rfl ?_ | refine z12 ?_ | refine z3 ?_ | refine z16 ?_ | refine z11 ?_ | refine z4 ?_)
        refine z20 rfl (fun hb => ?_) (fun hb => ?_)
        · have hltj : j < G := by simpa using hb
          have hwj : IntKind.i64.wrap ((j : Int) + 1) = ((j + 1 : Nat) : Int) := by rw [z23 (by omega)]; simp
          have hnj : ¬ ((j : Int) < 0) := by omega
          have gN := z33 (l := N) (i := j) (by omega)
          have gM := z48 (mixL_at G (f i) (f (i + 1)) hltj)
          have r1 := hfr i j (by omega)
          have r2 := hq j
          have m1 : 0 ≤ getI N (j : Int) * cnt i := Int.mul_nonneg r2.1 hcr.1
          have m2 : getI N (j : Int) * cnt i ≤ 5000 * 100 := Int.mul_le_mul r2.2 hcr.2 hcr.1 (by decide)
          have e1 : IntKind.i64.wrap (getI N (j : Int) * cnt i) = getI N (j : Int) * cnt i := z23 (by omega)
          have e2 : IntKind.i64.wrap (f i j + getI N (j : Int) * cnt i) = f (i + 1) j := by rw [z23 (by omega), hfi j]
          have su : (intRows (mixL G (f i) (f (i + 1)) j)).set j [.i (f (i + 1) j)] = intRows (mixL G (f i) (f (i + 1)) (j + 1)) := by rw [z54, mixL_set _ _ _ hltj]
          obtain ⟨M, hM⟩ : ∃ M, M = mixL G (f i) (f (i + 1)) j := ⟨_, rfl⟩
          rw [← hM] at gM su hMl ⊢
          have hjM : j < M.length := by omega
          repeat (first | refine z14 ?_ | refine z9 ?_ | refine z7 ?_ | (refine z5 fun K hK => ?_; simp (maxSteps := 4000000) only [go_sem, gN]; refine hK _ ?_; clear hK K) | refine z13 ?_ | refine z15 ?_ | refine z10 ?_ | refine z8 ?_ | refine z6 rfl ?_ | refine z12 ?_ | refine z3 ?_ | refine z16 ?_ | refine z11 ?_ | refine z4 ?_)
          refine z24 (by kernel_rfl) (by kernel_rfl) fun K hK => ?_
          simp (maxSteps := 4000000) only [go_sem, gM, hjM, hnj]
          refine ⟨_, .fn (hf := hci) (hd := z28 _ _ _ _ rfl) (hr := .inl rfl), ?_⟩
          simp (maxSteps := 4000000) only [go_sem, gM, hjM, hnj, e1, e2, su]
          refine ⟨by kernel_rfl, hK _ ?_⟩
          clear hK K
          repeat (first | refine z14 ?_ | refine z9 ?_ | refine z7 ?_ | (refine z5 fun K hK => ?_; simp (maxSteps := 4000000) only [go_sem, hwj]; refine hK _ ?_; clear hK K) | refine z13 ?_ | refine z15 ?_ | refine z10 ?_ | refine z8 ?_ | refine z6 rfl ?_ | refine z12 ?_ | refine z3 ?_ | refine z16 ?_ | refine z11 ?_ | refine z4 ?_)
          refine ⟨rfl, j + 1, ?_, hltj, by omega⟩
          refine z19 [] ?_ ?_ rfl rfl <;> simp [lessT, lessM, lessB, AV.less]
          all_goals first | done | rfl | trace_state
        · have he : j = G := by (have : ¬ j < G := by simpa using hb); omega
          subst he
          rw [mixL_all]
          repeat (first | refine z14 ?_ | refine z9 ?_ | refine z7 ?_ | (refine z5 fun K hK => ?_; simp (maxSteps := 4000000) only [go_sem, hw]; refine hK _ ?_; clear hK K) | refine z13 ?_ | refine z15 ?_ | refine z10 ?_ | refine z8 ?_ | refine z6 rfl ?_ | refine z12 ?_ | refine z3 ?_ | refine z16 ?_ | refine z11 ?_ | refine z4 ?_)
          refine ⟨rfl, i + 1, ?_, hlt, by omega⟩
          refine z19 [] ?_ ?_ rfl rfl <;> simp [lessT, lessM, lessB, AV.less]
          all_goals first | done | rfl | trace_state
    · have he : i = ds.length := by (have : ¬ i < ds.length := by simpa using hb); omega
      subst he
      repeat (first | refine z14 ?_ | refine z9 ?_ | refine z7 ?_ | (refine z5 fun K hK => ?_; simp (maxSteps := 4000000) only [go_sem]; refine hK _ ?_; clear hK K) | refine z13 ?_ | refine z15 ?_ | refine z10 ?_ | refine z8 ?_ | refine z6 rfl ?_ | refine z12 ?_ | refine z3 ?_ | refine z16 ?_ | refine z11 ?_ | refine z4 ?_)
      simp (maxSteps := 4000000) only [go_sem]
end Go.Ab
namespace Go.Ab
open Go.RowKit Go.Proofs
set_option maxHeartbeats 16000000
set_option maxRecDepth 20000
attribute [local irreducible] WalkL Walk
def takeStep (k : Kitchen) (good : Nat) (a : List Int × Int) (i : Nat) : List Int × Int :=
  if (batAt k i).good = (good : Int) then (a.1.set i (getI a.1 (i : Int) - min a.2 (getI a.1 (i : Int))), a.2 - min a.2 (getI a.1 (i : Int))) else a
def takeG (k : Kitchen) (o : List Nat) (good : Nat) (l : List Int) (need : Int) : List Int × Int := o.foldl (takeStep k good) (l, need)
def takeTo (k : Kitchen) (o : List Nat) (needs l : List Int) : Nat → Option (List Int)
  | 0 => some l
  | g + 1 => match takeTo k o needs l g with
    | none => none
    | some c => if (takeG k o g c (getI needs (g : Int))).2 > 0 then none else some (takeG k o g c (getI needs (g : Int))).1
theorem z115 {k : Kitchen} {good : Nat} {a : List Int × Int} {i : Nat} (h : AmtOk a.1) (hn : 0 ≤ a.2) : AmtOk (takeStep k good a i).1 ∧ (takeStep k good a i).1.length = a.1.length ∧ 0 ≤ (takeStep k good a i).2 ∧ (takeStep k good a i).2 ≤ a.2 := by
  unfold takeStep
  have hg := h.get (i : Int)
  split
  · refine ⟨h.set i (by omega), by simp, ?_, ?_⟩ <;> dsimp only <;> omega
  · exact ⟨h, rfl, hn, Int.le_refl _⟩
theorem z223 {k : Kitchen} {good : Nat} : ∀ (o : List Nat) {a : List Int × Int}, AmtOk a.1 → 0 ≤ a.2 → AmtOk (o.foldl (takeStep k good) a).1 ∧ (o.foldl (takeStep k good) a).1.length = a.1.length ∧ 0 ≤ (o.foldl (takeStep k good) a).2 ∧ (o.foldl (takeStep k good) a).2 ≤ a.2
  | [], a, h, hn => ⟨h, rfl, hn, Int.le_refl _⟩
  | i :: o, a, h, hn => by
    obtain ⟨h1, h2, h3, h4⟩ := z115 (k := k) (good := good) (i := i) h hn
    obtain ⟨k1, k2, k3, k4⟩ := z223 o h1 h3
    rw [List.foldl_cons]
    exact ⟨k1, by rw [k2, h2], k3, by omega⟩
theorem z235 {k : Kitchen} {o : List Nat} {needs l : List Int} (h : AmtOk l) (hn : ∀ x ∈ needs, 0 ≤ x) : ∀ (g : Nat) (c : List Int), takeTo k o needs l g = some c → AmtOk c ∧ c.length = l.length
  | 0, c, hc => by cases hc; exact ⟨h, rfl⟩
  | g + 1, c, hc => by
    rw [takeTo] at hc
    cases hx : takeTo k o needs l g with
    | none => rw [hx] at hc; cases hc
    | some d =>
      rw [hx] at hc
      dsimp only at hc
      split at hc
      · cases hc
      · cases hc
        obtain ⟨d1, d2⟩ := z235 h hn g d hx
        have hng : 0 ≤ getI needs (g : Int) := by
          unfold getI List.getD
          cases hy : needs[((g : Int)).toNat]? with
          | none => simp
          | some y => exact hn y (List.mem_of_getElem? hy)
        obtain ⟨k1, k2, _⟩ := z223 (k := k) (good := g) o (a := (d, getI needs (g : Int))) d1 hng
        exact ⟨k1, by rw [takeG, k2, d2]⟩
theorem takeTo_none {k : Kitchen} {o : List Nat} {needs l : List Int} {g : Nat} (h : takeTo k o needs l g = none) : ∀ {m : Nat}, g ≤ m → takeTo k o needs l m = none := by
  intro m hm
  induction hm with
  | refl => exact h
  | step _ ih => rw [takeTo, ih]
def takeBlks (k : Kitchen) (w : Int) (l : List Int) (o : List Nat) : Option (List Int) → List Blk
  | none => [.box (lardRow k (.own 1) (.own 2) w), .arr 3 1 (intRows l), .arr 3 1 (natRows o)]
  | some c => [.box (lardRow k (.own 3) (.own 2) w), .arr 3 1 (intRows l), .arr 3 1 (natRows o), .arr 3 1 (intRows c)]
theorem zf63 (k : Kitchen) (needs l : List Int) (o : List Nat) (w : Int) (hl : l.length = k.batches.length) (hbl : k.batches.length ≤ 10) (ha : AmtOk l) (hn : ∀ x ∈ needs, 0 ≤ x ∧ x ≤ 2 ^ 40) (hnl : needs.length ≤ 6) (ho : ∀ x ∈ o, x < k.batches.length) (hol : o.length ≤ 10) :
    FnG Tryz.prog 63 [.box (lardRow k (.own 1) (.own 2) w), .arr 3 1 (intRows l), .arr 3 1 (natRows o)] [0] [.box 0 0, .d (.sl (intRows needs))] (.d (.bool (takeTo k o needs l needs.length).isSome)) (takeBlks k w l o (takeTo k o needs l needs.length)) := by
  have h184 := zf96 l (by omega)
  have hn0 : ∀ x ∈ needs, 0 ≤ x := fun x hx => (hn x hx).1
  have hto := fun g c hc => z235 (k := k) (o := o) ha hn0 g c hc
  cases hres : takeTo k o needs l needs.length with
  | none =>
    refine z87 68 Tryz.call63 Tryz.func63 rfl (by decide) [] [(0, 0)] (by simp only [List.length_cons, List.length_nil]; decide) (by kernel_rfl) fun J => ?_
    simp (maxSteps := 4000000) only [go_sem, St.startG, Tryz.ntmps63, Tryz.results63, List.map_cons, List.map_nil, List.range_succ,  lardRow]
    repeat (first | refine z14 ?_ | refine z9 ?_ | refine z7 ?_ | (refine z5 fun K hK => ?_; simp (maxSteps := 4000000) only [go_sem]; refine hK _ ?_; clear hK K) | refine z13 ?_ | refine z15 ?_ | refine z10 ?_ | refine z8 ?_ | refine z6 rfl ?_ | refine z12 ?_ | refine z3 ?_ | refine z16 ?_ | refine z11 ?_ | refine z4 ?_)
    refine z5 fun K hK => ?_
    simp (maxSteps := 4000000) only [go_sem]
    refine ⟨_, .lentS (hdst := rfl) (hf := h184) (hd := rfl) (hr := z51 _) (hfr := rfl), ?_⟩
    simp (maxSteps := 4000000) only [go_sem]
    refine hK _ ?_
    clear hK K
    repeat (first | refine z14 ?_ | refine z9 ?_ | refine z7 ?_ | (refine z5 fun K hK => ?_; simp (maxSteps := 4000000) only [go_sem]; refine hK _ ?_; clear hK K) | refine z13 ?_ | refine z15 ?_ | refine z10 ?_ | refine z8 ?_ | refine z6 rfl ?_ | refine z12 ?_ | refine z3 ?_ | refine z16 ?_ | refine z11 ?_ | refine z4 ?_)
    refine z22 (fun (q : Nat × List Int) => [(18, .d (.i (q.1 : Int)))]) (fun q => [(15, some (.arr 3 1 (intRows q.2)))]) (fun q => q.1 ≤ needs.length ∧ takeTo k o needs l q.1 = some q.2) (fun q => needs.length - q.1) (0, l) ?_ ⟨Nat.zero_le _, rfl⟩ ?_
    · simp (maxSteps := 4000000) only [go_sem]
      refine z19 [] ?_ ?_ rfl rfl <;> simp [lessT, lessM, lessB, AV.less]
      all_goals first | done | rfl | trace_state
    · rintro ⟨g, cur⟩ ⟨hg, hcur⟩
      dsimp only at hg hcur
      obtain ⟨hco, hcl⟩ := hto g cur hcur
      simp (maxSteps := 4000000) only [go_sem]
      repeat (first | refine z14 ?_ | refine z9 ?_ | refine z7 ?_ | (refine z5 fun K hK => ?_; simp (maxSteps := 4000000) only [go_sem]; refine hK _ ?_; clear hK K) | refine z13 ?_ | refine z15 ?_ | refine z10 ?_ | refine z8 ?_ | refine z6 rfl ?_ | refine z12 ?_ | refine z3 ?_ | refine z16 ?_ | refine z11 ?_ | refine z4 ?_)
      refine z20 rfl (fun hb => ?_) (fun hb => ?_)
      · have hlt : g < needs.length := by simpa using hb
        have hw : IntKind.i64.wrap ((g : Int) + 1) = ((g + 1 : Nat) : Int) := by rw [z23 (by omega)]; simp
        have gn := z33 hlt
        have hnx : takeTo k o needs l (g + 1) = if (takeG k o g cur (getI needs (g : Int))).2 > 0 then none else some (takeG k o g cur (getI needs (g : Int))).1 := by rw [takeTo, hcur]
        have hnr : 0 ≤ getI needs (g : Int) ∧ getI needs (g : Int) ≤ 2 ^ 40 := z124 hn (by decide) _
        obtain ⟨N, hN⟩ : ∃ N, N = getI needs (g : Int) := ⟨_, rfl⟩
        rw [← hN] at gn hnx hnr
        repeat (first | refine z14 ?_ | refine z9 ?_ | refine z7 ?_ | (refine z5 fun K hK => ?_; simp (maxSteps := 4000000) only [go_sem, gn]; refine hK _ ?_; clear hK K) | refine z13 ?_ | refine z15 ?_ | refine z10 ?_ | refine z8 ?_ | refine z6 rfl ?_ | refine z12 ?_ | refine z3 ?_ | refine z16 ?_ | refine z11 ?_ | refine z4 ?_)
        refine z22 (fun (q : Nat × List Int × Int) => [(28, .d (.i (q.1 : Int))), (7, .d (.i q.2.2))]) (fun q => [(15, some (.arr 3 1 (intRows q.2.1)))]) (fun q => q.1 ≤ o.length ∧ (q.2.1, q.2.2) = (o.take q.1).foldl (takeStep k g) (cur, N) ∧ AmtOk q.2.1 ∧ q.2.1.length = l.length ∧ 0 ≤ q.2.2 ∧ q.2.2 ≤ 2 ^ 40) (fun q => o.length - q.1) (0, cur, N) ?_ ⟨Nat.zero_le _, rfl, hco, hcl, hnr.1, hnr.2⟩ ?_
        · simp (maxSteps := 4000000) only [go_sem]
          refine z19 [] ?_ ?_ rfl rfl <;> simp [lessT, lessM, lessB, AV.less]
          all_goals first | done | rfl | trace_state
        · rintro ⟨j, A, m⟩ ⟨hj, hfold, hAo, hAl, hm0, hm1⟩
          dsimp only at hj hfold hAo hAl hm0 hm1
          simp (maxSteps := 4000000) only [go_sem]
          repeat (first | refine z14 ?_ | refine z9 ?_ | refine z7 ?_ | (refine z5 fun K hK => ?_; simp (maxSteps := 4000000) only [go_sem]; refine hK _ ?_; clear hK K) | refine z13 ?_ | refine z15 ?_ | refine z10 ?_ | refine z8 ?_ | refine z6 rfl ?_ | refine z12 ?_ | refine z3 ?_ | refine z16 ?_ | refine z11 ?_ | refine z4 ?_)
          refine z20 rfl (fun hb => ?_) (fun hb => ?_)
          · have hltj : j < o.length := by simpa using hb
            have hwj : IntKind.i64.wrap ((j : Int) + 1) = ((j + 1 : Nat) : Int) := by rw [z23 (by omega)]; simp
            have hnj : ¬ ((j : Int) < 0) := by omega
            obtain ⟨x, hx⟩ : ∃ x, o[j]? = some x := ⟨_, List.getElem?_eq_getElem hltj⟩
            have gx := z92 hltj
            rw [List.getD, hx, Option.getD_some] at gx
            have hxb := ho x (List.mem_of_getElem? hx)
            have gb := z285 hxb
            rw [Batch.row] at gb
            have hnx2 : ¬ ((x : Int) < 0) := by omega
            have hxA : x < A.length := by omega
            have gA := z33 hxA
            have hgA := hAo.get (x : Int)
            have hst : (o.take (j + 1)).foldl (takeStep k g) (cur, N) = takeStep k g (A, m) x := by rw [z41 _ _ _ _ _ hx, ← hfold]
            have hso := z115 (k := k) (good := g) (i := x) (a := (A, m)) hAo hm0
            by_cases hq : (batAt k x).good = (g : Int)
            · have d : ((batAt k x).good == (g : Int)) = true := by simp [hq]
              have e0 : takeStep k g (A, m) x = (A.set x (getI A (x : Int) - min m (getI A (x : Int))), m - min m (getI A (x : Int))) := by rw [takeStep, if_pos hq]
              rw [e0] at hst hso
              dsimp only at hso
              have e1 : IntKind.i64.wrap (getI A (x : Int) - min m (getI A (x : Int))) = getI A (x : Int) - min m (getI A (x : Int)) := z23 (by omega)
              have e2 : IntKind.i64.wrap (m - min m (getI A (x : Int))) = m - min m (getI A (x : Int)) := z23 (by omega)
              have su := z54 A x (getI A (x : Int) - min m (getI A (x : Int)))
              obtain ⟨v, hv⟩ : ∃ v, v = getI A (x : Int) := ⟨_, rfl⟩
              rw [← hv] at gA e1 e2 su hst hso hgA
              obtain ⟨t, ht⟩ : ∃ t, t = min m v := ⟨_, rfl⟩
              rw [← ht] at e1 e2 su hst hso
              have ht' : min m v = t := ht.symm
              repeat (first | refine z18 rfl ?_ | refine z17 rfl ?_ | refine z14 ?_ | refine z9 ?_ | refine z7 ?_ | (refine z5 fun K hK => ?_; simp (maxSteps := 4000000) only [go_sem, gx, hnj, hltj, gb, hnx2, d]; refine hK _ ?_; clear hK K) | refine z13 ?_ | refine z15 ?_ | refine z10 ?_ | refine z8 ?_ | refine z6 rfl ?_ | refine z12 ?_ | refine z3 ?_ | refine z16 ?_ | refine z11 ?_ | refine z4 ?_)
              repeat (first | refine z14 ?_ | refine z9 ?_ | refine z7 ?_ | (refine z5 fun K hK => ?_; simp (maxSteps := 4000000) only [go_sem, gx, hnj, hltj, gb, hnx2, d, gA, hxA, ht', e1, e2, su, hwj]; refine hK _ ?_; clear hK K) | refine z13 ?_ | refine z15 ?_ | refine z10 ?_ | refine z8 ?_ | refine z6 rfl ?_ | refine z12 ?_ | refine z3 ?_ | refine z16 ?_ | refine z11 ?_ | refine z4 ?_)
              refine ⟨rfl, (j + 1, A.set x (v - t), m - t), ?_, ⟨hltj, hst.symm, hso.1, by rw [hso.2.1]; exact hAl, hso.2.2.1, by dsimp only; omega⟩, by dsimp only; omega⟩
              refine z19 [] ?_ ?_ rfl rfl <;> simp [lessT, lessM, lessB, AV.less]
              all_goals first | done | rfl | trace_state
            · have d : ((batAt k x).good == (g : Int)) = false := by simpa using hq
              have e0 : takeStep k g (A, m) x = (A, m) := by rw [takeStep, if_neg hq]
              rw [e0] at hst
              repeat (first | refine z18 rfl ?_ | refine z17 rfl ?_ | refine z14 ?_ | refine z9 ?_ | refine z7 ?_ | (refine z5 fun K hK => ?_; simp (maxSteps := 4000000) only [go_sem, gx, hnj, hltj, gb, hnx2, d, hwj]; refine hK _ ?_; clear hK K) | refine z13 ?_ | refine z15 ?_ | refine z10 ?_ | refine z8 ?_ | refine z6 rfl ?_ | refine z12 ?_ | refine z3 ?_ | refine z16 ?_ | refine z11 ?_ | refine z4 ?_)
              refine ⟨rfl, (j + 1, A, m), ?_, ⟨hltj, hst.symm, hAo, hAl, hm0, hm1⟩, by dsimp only; omega⟩
              refine z19 [] ?_ ?_ rfl rfl <;> simp [lessT, lessM, lessB, AV.less]
              all_goals first | done | rfl | trace_state
          · have he : j = o.length := by (have : ¬ j < o.length := by simpa using hb); omega
            subst he
            rw [List.take_length] at hfold
            have hG : takeG k o g cur N = (A, m) := hfold.symm
            rw [hG] at hnx
            dsimp only at hnx
            repeat (first | refine z14 ?_ | refine z9 ?_ | refine z7 ?_ | (refine z5 fun K hK => ?_; simp (maxSteps := 4000000) only [go_sem]; refine hK _ ?_; clear hK K) | refine z13 ?_ | refine z15 ?_ | refine z10 ?_ | refine z8 ?_ | refine z6 rfl ?_ | refine z12 ?_ | refine z3 ?_ | refine z16 ?_ | refine z11 ?_ | refine z4 ?_)
            refine z20 rfl (fun hb => ?_) (fun hb => ?_)
            · have hpos : m > 0 := by simpa using hb
              rw [if_pos hpos] at hnx
              repeat (first | refine z14 ?_ | refine z9 ?_ | refine z7 ?_ | (refine z5 fun K hK => ?_; simp (maxSteps := 4000000) only [go_sem]; refine hK _ ?_; clear hK K) | refine z13 ?_ | refine z15 ?_ | refine z10 ?_ | refine z8 ?_ | refine z6 rfl ?_ | refine z12 ?_ | refine z3 ?_ | refine z16 ?_ | refine z11 ?_ | refine z4 ?_)
              simp (maxSteps := 4000000) only [go_sem, retG, takeBlks, lardRow, Option.isSome_none]
            · have hpos : ¬ m > 0 := by simpa using hb
              rw [if_neg hpos] at hnx
              repeat (first | refine z14 ?_ | refine z9 ?_ | refine z7 ?_ | (refine z5 fun K hK => ?_; simp (maxSteps := 4000000) only [go_sem, hw]; refine hK _ ?_; clear hK K) | refine z13 ?_ | refine z15 ?_ | refine z10 ?_ | refine z8 ?_ | refine z6 rfl ?_ | refine z12 ?_ | refine z3 ?_ | refine z16 ?_ | refine z11 ?_ | refine z4 ?_)
              refine ⟨rfl, (g + 1, A), ?_, ⟨hlt, hnx⟩, by dsimp only; omega⟩
              refine z19 [] ?_ ?_ rfl rfl <;> simp [lessT, lessM, lessB, AV.less]
              all_goals first | done | rfl | trace_state
      · have he : g = needs.length := by (have : ¬ g < needs.length := by simpa using hb); omega
        subst he
        rw [hres] at hcur
        cases hcur
  | some cf =>
    refine z87 68 Tryz.call63 Tryz.func63 rfl (by decide) [15] [(0, 0)] (by simp only [List.length_cons, List.length_nil]; decide) (by kernel_rfl) fun J => ?_
    simp (maxSteps := 4000000) only [go_sem, St.startG, Tryz.ntmps63, Tryz.results63, List.map_cons, List.map_nil, List.range_succ,  lardRow]
    repeat (first | refine z14 ?_ | refine z9 ?_ | refine z7 ?_ | (refine z5 fun K hK => ?_; simp (maxSteps := 4000000) only [go_sem]; refine hK _ ?_; clear hK K) | refine z13 ?_ | refine z15 ?_ | refine z10 ?_ | refine z8 ?_ | refine z6 rfl ?_ | refine z12 ?_ | refine z3 ?_ | refine z16 ?_ | refine z11 ?_ | refine z4 ?_)
    refine z5 fun K hK => ?_
    simp (maxSteps := 4000000) only [go_sem]
    refine ⟨_, .lentS (hdst := rfl) (hf := h184) (hd := rfl) (hr := z51 _) (hfr := rfl), ?_⟩
    simp (maxSteps := 4000000) only [go_sem]
    refine hK _ ?_
    clear hK K
    repeat (first | refine z14 ?_ | refine z9 ?_ | refine z7 ?_ | (refine z5 fun K hK => ?_; simp (maxSteps := 4000000) only [go_sem]; refine hK _ ?_; clear hK K) | refine z13 ?_ | refine z15 ?_ | refine z10 ?_ | refine z8 ?_ | refine z6 rfl ?_ | refine z12 ?_ | refine z3 ?_ | refine z16 ?_ | refine z11 ?_ | refine z4 ?_)
    refine z22 (fun (q : Nat × List Int) => [(18, .d (.i (q.1 : Int)))]) (fun q => [(15, some (.arr 3 1 (intRows q.2)))]) (fun q => q.1 ≤ needs.length ∧ takeTo k o needs l q.1 = some q.2) (fun q => needs.length - q.1) (0, l) ?_ ⟨Nat.zero_le _, rfl⟩ ?_
    · simp (maxSteps := 4000000) only [go_sem]
      refine z19 [] ?_ ?_ rfl rfl <;> simp [lessT, lessM, lessB, AV.less]
      all_goals first | done | rfl | trace_state
    · rintro ⟨g, cur⟩ ⟨hg, hcur⟩
      dsimp only at hg hcur
      obtain ⟨hco, hcl⟩ := hto g cur hcur
      simp (maxSteps := 4000000) only [go_sem]
      repeat (first | refine z14 ?_ | refine z9 ?_ | refine z7 ?_ | (refine z5 fun K hK => ?_; simp (maxSteps := 4000000) only [go_sem]; refine hK _ ?_; clear hK K) | refine z13 ?_ | refine z15 ?_ | refine z10 ?_ | refine z8 ?_ | refine z6 rfl ?_ | refine z12 ?_ | refine z3 ?_ | refine z16 ?_ | refine z11 ?_ | refine z4 ?_)
      refine z20 rfl (fun hb => ?_) (fun hb => ?_)
      · have hlt : g < needs.length := by simpa using hb
        have hw : IntKind.i64.wrap ((g : Int) + 1) = ((g + 1 : Nat) : Int) := by rw [z23 (by omega)]; simp
        have gn := z33 hlt
        have hnx : takeTo k o needs l (g + 1) = if (takeG k o g cur (getI needs (g : Int))).2 > 0 then none else some (takeG k o g cur (getI needs (g : Int))).1 := by rw [takeTo, hcur]
        have hnr : 0 ≤ getI needs (g : Int) ∧ getI needs (g : Int) ≤ 2 ^ 40 := z124 hn (by decide) _
        obtain ⟨N, hN⟩ : ∃ N, N = getI needs (g : Int) := ⟨_, rfl⟩
        rw [← hN] at gn hnx hnr
        repeat (first | refine z14 ?_ | refine z9 ?_ | refine z7 ?_ | (refine z5 fun K hK => ?_; simp (maxSteps := 4000000) only [go_sem, gn]; refine hK _ ?_; clear hK K) | refine z13 ?_ | refine z15 ?_ | refine z10 ?_ | refine z8 ?_ | refine z6 rfl ?_ | refine z12 ?_ | refine z3 ?_ | refine z16 ?_ | refine z11 ?_ | refine z4 ?_)
        refine z22 (fun (q : Nat × List Int × Int) => [(28, .d (.i (q.1 : Int))), (7, .d (.i q.2.2))]) (fun q => [(15, some (.arr 3 1 (intRows q.2.1)))]) (fun q => q.1 ≤ o.length ∧ (q.2.1, q.2.2) = (o.take q.1).foldl (takeStep k g) (cur, N) ∧ AmtOk q.2.1 ∧ q.2.1.length = l.length ∧ 0 ≤ q.2.2 ∧ q.2.2 ≤ 2 ^ 40) (fun q => o.length - q.1) (0, cur, N) ?_ ⟨Nat.zero_le _, rfl, hco, hcl, hnr.1, hnr.2⟩ ?_
        · simp (maxSteps := 4000000) only [go_sem]
          refine z19 [] ?_ ?_ rfl rfl <;> simp [lessT, lessM, lessB, AV.less]
          all_goals first | done | rfl | trace_state
        · rintro ⟨j, A, m⟩ ⟨hj, hfold, hAo, hAl, hm0, hm1⟩
          dsimp only at hj hfold hAo hAl hm0 hm1
          simp (maxSteps := 4000000) only [go_sem]
          repeat (first | refine z14 ?_ | refine z9 ?_ | refine z7 ?_ | (refine z5 fun K hK => ?_; simp (maxSteps := 4000000) only [go_sem]; refine hK _ ?_; clear hK K) | refine z13 ?_ | refine z15 ?_ | refine z10 ?_ | refine z8 ?_ | refine z6 rfl ?_ | refine z12 ?_ | refine z3 ?_ | refine z16 ?_ | refine z11 ?_ | refine z4 ?_)
          refine z20 rfl (fun hb => ?_) (fun hb => ?_)
          · have hltj : j < o.length := by simpa using hb
            have hwj : IntKind.i64.wrap ((j : Int) + 1) = ((j + 1 : Nat) : Int) := by rw [z23 (by omega)]; simp
            have hnj : ¬ ((j : Int) < 0) := by omega
            obtain ⟨x, hx⟩ : ∃ x, o[j]? = some x := ⟨_, List.getElem?_eq_getElem hltj⟩
            have gx := z92 hltj
            rw [List.getD, hx, Option.getD_some] at gx
            have hxb := ho x (List.mem_of_getElem? hx)
            have gb := z285 hxb
            rw [Batch.row] at gb
            have hnx2 : ¬ ((x : Int) < 0) := by omega
            have hxA : x < A.length := by omega
            have gA := z33 hxA
            have hgA := hAo.get (x : Int)
            have hst : (o.take (j + 1)).foldl (takeStep k g) (cur, N) = takeStep k g (A, m) x := by rw [z41 _ _ _ _ _ hx, ← hfold]
            have hso := z115 (k := k) (good := g) (i := x) (a := (A, m)) hAo hm0
            by_cases hq : (batAt k x).good = (g : Int)
            · have d : ((batAt k x).good == (g : Int)) = true := by simp [hq]
              have e0 : takeStep k g (A, m) x = (A.set x (getI A (x : Int) - min m (getI A (x : Int))), m - min m (getI A (x : Int))) := by rw [takeStep, if_pos hq]
              rw [e0] at hst hso
              dsimp only at hso
              have e1 : IntKind.i64.wrap (getI A (x : Int) - min m (getI A (x : Int))) = getI A (x : Int) - min m (getI A (x : Int)) := z23 (by omega)
              have e2 : IntKind.i64.wrap (m - min m (getI A (x : Int))) = m - min m (getI A (x : Int)) := z23 (by omega)
              have su := z54 A x (getI A (x : Int) - min m (getI A (x : Int)))
              obtain ⟨v, hv⟩ : ∃ v, v = getI A (x : Int) := ⟨_, rfl⟩
              rw [← hv] at gA e1 e2 su hst hso hgA
              obtain ⟨t, ht⟩ : ∃ t, t = min m v := ⟨_, rfl⟩
              rw [← ht] at e1 e2 su hst hso
              have ht' : min m v = t := ht.symm
              repeat (first | refine z18 rfl ?_ | refine z17 rfl ?_ | refine z14 ?_ | refine z9 ?_ | refine z7 ?_ | (refine z5 fun K hK => ?_; simp (maxSteps := 4000000) only [go_sem, gx, hnj, hltj, gb, hnx2, d]; refine hK _ ?_; clear hK K) | refine z13 ?_ | refine z15 ?_ | refine z10 ?_ | refine z8 ?_ | refine z6 rfl ?_ | refine z12 ?_ | refine z3 ?_ | refine z16 ?_ | refine z11 ?_ | refine z4 ?_)
              repeat (first | refine z14 ?_ | refine z9 ?_ | refine z7 ?_ | (refine z5 fun K hK => ?_; simp (maxSteps := 4000000) only [go_sem, gx, hnj, hltj, gb, hnx2, d, gA, hxA, ht', e1, e2, su, hwj]; refine hK _ ?_; clear hK K) | refine z13 ?_ | refine z15 ?_ | refine z10 ?_ | refine z8 ?_ | refine z6 rfl ?_ | refine z12 ?_ | refine z3 ?_ | refine z16 ?_ | refine z11 ?_ | refine z4 ?_)
              refine ⟨rfl, (j + 1, A.set x (v - t), m - t), ?_, ⟨hltj, hst.symm, hso.1, by rw [hso.2.1]; exact hAl, hso.2.2.1, by dsimp only; omega⟩, by dsimp only; omega⟩
              refine z19 [] ?_ ?_ rfl rfl <;> simp [lessT, lessM, lessB, AV.less]
              all_goals first | done | rfl | trace_state
            · have d : ((batAt k x).good == (g : Int)) = false := by simpa using hq
              have e0 : takeStep k g (A, m) x = (A, m) := by rw [takeStep, if_neg hq]
              rw [e0] at hst
              repeat (first | refine z18 rfl ?_ | refine z17 rfl ?_ | refine z14 ?_ | refine z9 ?_ | refine z7 ?_ | (refine z5 fun K hK => ?_; simp (maxSteps := 4000000) only [go_sem, gx, hnj, hltj, gb, hnx2, d, hwj]; refine hK _ ?_; clear hK K) | refine z13 ?_ | refine z15 ?_ | refine z10 ?_ | refine z8 ?_ | refine z6 rfl ?_ | refine z12 ?_ | refine z3 ?_ | refine z16 ?_ | refine z11 ?_ | refine z4 ?_)
              refine ⟨rfl, (j + 1, A, m), ?_, ⟨hltj, hst.symm, hAo, hAl, hm0, hm1⟩, by dsimp only; omega⟩
              refine z19 [] ?_ ?_ rfl rfl <;> simp [lessT, lessM, lessB, AV.less]
              all_goals first | done | rfl | trace_state
          · have he : j = o.length := by (have : ¬ j < o.length := by simpa using hb); omega
            subst he
            rw [List.take_length] at hfold
            have hG : takeG k o g cur N = (A, m) := hfold.symm
            rw [hG] at hnx
            dsimp only at hnx
            repeat (first | refine z14 ?_ | refine z9 ?_ | refine z7 ?_ | (refine z5 fun K hK => ?_; simp (maxSteps := 4000000) only [go_sem]; refine hK _ ?_; clear hK K) | refine z13 ?_ | refine z15 ?_ | refine z10 ?_ | refine z8 ?_ | refine z6 rfl ?_ | refine z12 ?_ | refine z3 ?_ | refine z16 ?_ | refine z11 ?_ | refine z4 ?_)
            refine z20 rfl (fun hb => ?_) (fun hb => ?_)
            · have hpos : m > 0 := by simpa using hb
              rw [if_pos hpos] at hnx
              rw [takeTo_none hnx (by omega : g + 1 ≤ needs.length)] at hres
              cases hres
            · have hpos : ¬ m > 0 := by simpa using hb
              rw [if_neg hpos] at hnx
              repeat (first | refine z14 ?_ | refine z9 ?_ | refine z7 ?_ | (refine z5 fun K hK => ?_; simp (maxSteps := 4000000) only [go_sem, hw]; refine hK _ ?_; clear hK K) | refine z13 ?_ | refine z15 ?_ | refine z10 ?_ | refine z8 ?_ | refine z6 rfl ?_ | refine z12 ?_ | refine z3 ?_ | refine z16 ?_ | refine z11 ?_ | refine z4 ?_)
              refine ⟨rfl, (g + 1, A), ?_, ⟨hlt, hnx⟩, by dsimp only; omega⟩
              refine z19 [] ?_ ?_ rfl rfl <;> simp [lessT, lessM, lessB, AV.less]
              all_goals first | done | rfl | trace_state
      · have he : g = needs.length := by (have : ¬ g < needs.length := by simpa using hb); omega
        subst he
        rw [hres] at hcur
        cases hcur
        repeat (first | refine z14 ?_ | refine z9 ?_ | refine z7 ?_ | (refine z5 fun K hK => ?_; simp (maxSteps := 4000000) only [go_sem]; refine hK _ ?_; clear hK K) | refine z13 ?_ | refine z15 ?_ | refine z10 ?_ | refine z8 ?_ | refine z6 rfl ?_ | refine z12 ?_ | refine z3 ?_ | refine z16 ?_ | refine z11 ?_ | refine z4 ?_)
        simp (maxSteps := 4000000) only [go_sem, retG, takeBlks, lardRow, Option.isSome_some]
end Go.Ab
namespace Go.Ab
open Go.RowKit Go.Proofs
set_option maxHeartbeats 16000000
set_option maxRecDepth 20000
attribute [local irreducible] WalkL Walk
theorem rowOk_at {q : Int → Diners → Bool} : ∀ {l : List Int} {d : List Diners}, rowOk q l d = true → ∀ {g : Nat} {n : Int}, l[g]? = some n → ∃ x, d[g]? = some x ∧ q n x = true
  | [], [], _, g, n, h => by simp at h
  | m :: l, x :: d, hr, g, n, h => by
    rw [rowOk, Bool.and_eq_true] at hr
    cases g with
    | zero => simp at h; subst h; exact ⟨x, rfl, hr.1⟩
    | succ g => simpa using rowOk_at hr.2 (by simpa using h)
  | [], _ :: _, h, _, _, _ => by cases h
  | _ :: _, [], h, _, _, _ => by cases h
theorem shaped_at {q : Int → Diners → Bool} : ∀ {l : List (List Int)} {d : List (List Diners)}, shapedB q l d = true → ∀ {i : Nat} {r : List Int}, l[i]? = some r → ∃ x, d[i]? = some x ∧ rowOk q r x = true
  | [], [], _, i, r, h => by simp at h
  | m :: l, x :: d, hr, i, r, h => by
    rw [shapedB, Bool.and_eq_true] at hr
    cases i with
    | zero => simp at h; subst h; exact ⟨x, rfl, hr.1⟩
    | succ i => simpa using shaped_at hr.2 (by simpa using h)
  | [], _ :: _, h, _, _, _ => by cases h
  | _ :: _, [], h, _, _, _ => by cases h
structure CntOk (k : Kitchen) (cnt : Nat → Nat → Int) : Prop where
  rng : ∀ d g, d < k.days.length → g < (k.days.getD d []).length → 0 ≤ cnt d g ∧ cnt d g ≤ 100
theorem z280 {k : Kitchen} (hg : KitGood k) {M : List (List Int)} (hM : shapedB (menuB k) M k.days = true) {cnt : Nat → Nat → Int} (hc : CntOk k cnt) {d : Nat} {r : List Int} (hr : M[d]? = some r) :
    d < k.days.length ∧ r.length = (k.days.getD d []).length ∧ DayOk k r (cnt d) := by
  obtain ⟨x, hx, ho⟩ := shaped_at hM hr
  have hd := (List.getElem?_eq_some_iff.1 hx).1
  have e : k.days.getD d [] = x := by rw [List.getD, hx]; rfl
  have hl := z174 ho
  have h3 := (hg.groups x (List.mem_of_getElem? hx)).1
  refine ⟨hd, by rw [e, hl], ⟨by omega, fun g hgl => ?_, fun g hgl => hc.rng d g hd (by rw [e]; omega)⟩⟩
  obtain ⟨n, hn⟩ : ∃ n, r[g]? = some n := ⟨_, List.getElem?_eq_getElem hgl⟩
  obtain ⟨y, _, hq⟩ := rowOk_at ho hn
  rw [menuB, Bool.and_eq_true] at hq
  have hw := z27.1 hq.1
  exact ⟨n.toNat, by rw [hn, Int.toNat_of_nonneg hw.1], by omega⟩
theorem hi_ok {k : Kitchen} (hg : KitGood k) : CntOk k fun d g => (dinAt k d g).count.hi := ⟨fun d g hd hgl => by
  obtain ⟨x, hx⟩ : ∃ x, k.days[d]? = some x := ⟨_, List.getElem?_eq_getElem hd⟩
  have e : k.days.getD d [] = x := by rw [List.getD, hx]; rfl
  rw [e] at hgl
  obtain ⟨y, hy⟩ : ∃ y, x[g]? = some y := ⟨_, List.getElem?_eq_getElem hgl⟩
  have e2 : dinAt k d g = y := by rw [dinAt, e, List.getD, hy]; rfl
  have := ((hg.groups x (List.mem_of_getElem? hx)).2 y (List.mem_of_getElem? hy)).2
  rw [e2]
  omega⟩
theorem lo_ok {k : Kitchen} (hg : KitGood k) : CntOk k fun d g => (dinAt k d g).count.lo := ⟨fun d g hd hgl => by
  obtain ⟨x, hx⟩ : ∃ x, k.days[d]? = some x := ⟨_, List.getElem?_eq_getElem hd⟩
  have e : k.days.getD d [] = x := by rw [List.getD, hx]; rfl
  rw [e] at hgl
  obtain ⟨y, hy⟩ : ∃ y, x[g]? = some y := ⟨_, List.getElem?_eq_getElem hgl⟩
  have e2 : dinAt k d g = y := by rw [dinAt, e, List.getD, hy]; rfl
  have := ((hg.groups x (List.mem_of_getElem? hx)).2 y (List.mem_of_getElem? hy)).2
  rw [e2]
  omega⟩
def clrD (k : Kitchen) (d : Nat) (a : List Int × Int) : List Int × Int := clrTo k (d : Int) a.1 a.2 k.batches.length
def needD (k : Kitchen) (M : List (List Int)) (cnt : Nat → Nat → Int) (d : Nat) : List Int := needL k (M.getD d []) (cnt d)
def runSt (k : Kitchen) (M : List (List Int)) (cnt : Nat → Nat → Int) : Nat → Option (List Int × Int)
  | 0 => some (amtK k, 0)
  | d + 1 => match runSt k M cnt d with
    | none => none
    | some a => (takeTo k (ordK k) (needD k M cnt d) (clrD k d a).1 k.allerg.length).map fun l => (l, (clrD k d a).2)
def lastD (k : Kitchen) (M : List (List Int)) (cnt : Nat → Nat → Int) : Nat → Nat
  | 0 => 0
  | d + 1 => if (runSt k M cnt (d + 1)).isSome then d + 1 else lastD k M cnt d
theorem runSt_none {k : Kitchen} {M : List (List Int)} {cnt : Nat → Nat → Int} {d : Nat} (h : runSt k M cnt d = none) : ∀ {m : Nat}, d ≤ m → runSt k M cnt m = none := by
  intro m hm
  induction hm with
  | refl => exact h
  | step _ ih => rw [runSt, ih]
theorem z265 {k : Kitchen} {M : List (List Int)} {cnt : Nat → Nat → Int} {d : Nat} (h : (runSt k M cnt d).isSome = true) : lastD k M cnt d = d := by
  cases d with
  | zero => rfl
  | succ d => rw [lastD, if_pos h]
theorem lastD_stop {k : Kitchen} {M : List (List Int)} {cnt : Nat → Nat → Int} {d : Nat} (h : (runSt k M cnt d).isSome = true) (hn : runSt k M cnt (d + 1) = none) : ∀ {m : Nat}, d ≤ m → lastD k M cnt m = d := by
  intro m hm
  induction hm with
  | refl => exact z265 h
  | @step m hm ih =>
    rw [lastD, runSt_none hn (Nat.succ_le_succ hm)]
    exact ih
theorem z98 (k : Kitchen) (ds : List Int) (cnt : Nat → Int) : (needL k ds cnt).length = k.allerg.length := by simp [needL]
theorem z118 {k : Kitchen} (hg : KitGood k) {ds : List Int} {cnt : Nat → Int} (hd : DayOk k ds cnt) : ∀ x ∈ needL k ds cnt, 0 ≤ x ∧ x ≤ 2 ^ 40 := fun x hx => by
  obtain ⟨g, _, rfl⟩ := List.mem_map.1 hx
  have := z199 hg hd g ds.length (Nat.le_refl _)
  have := hd.len
  omega
theorem amtK_ok {k : Kitchen} (hg : KitGood k) : AmtOk (amtK k) := fun x hx => by
  obtain ⟨b, hb, rfl⟩ := List.mem_map.1 hx
  exact (hg.batch b hb).2.1
theorem runSt_ok {k : Kitchen} (hg : KitGood k) {M : List (List Int)} (hM : shapedB (menuB k) M k.days = true) {cnt : Nat → Nat → Int} (hc : CntOk k cnt) : ∀ (d : Nat) a, d ≤ M.length → runSt k M cnt d = some a → AmtOk a.1 ∧ a.1.length = k.batches.length ∧ 0 ≤ a.2 ∧ a.2 ≤ 10000000 * d
  | 0, a, _, h => by
    cases h
    exact ⟨amtK_ok hg, by simp [amtK], Int.le_refl 0, by simp⟩
  | d + 1, a, hd, h => by
    rw [runSt] at h
    cases hx : runSt k M cnt d with
    | none => rw [hx] at h; cases h
    | some b =>
      rw [hx] at h
      dsimp only at h
      obtain ⟨h1, h2, h3, h4⟩ := runSt_ok hg hM hc d b (by omega) hx
      obtain ⟨l, hl, rfl⟩ := Option.map_eq_some_iff.1 h
      obtain ⟨r, hr⟩ : ∃ r, M[d]? = some r := ⟨_, List.getElem?_eq_getElem (by omega)⟩
      obtain ⟨_, _, hdo⟩ := z280 hg hM hc hr
      have hnd : needD k M cnt d = needL k r (cnt d) := by rw [needD, List.getD, hr]; rfl
      obtain ⟨c1, c2, c3⟩ := z80 (k := k) (day := (d : Int)) (w := b.2) h1 k.batches.length
      obtain ⟨t1, t2⟩ := z235 (k := k) (o := ordK k) (needs := needD k M cnt d) c1 (fun x hx => by rw [hnd] at hx; exact (z118 hg hdo x hx).1) k.allerg.length l hl
      have hb := hg.batches
      refine ⟨t1, by rw [t2, z55, h2], ?_, ?_⟩
      · change 0 ≤ (clrTo k (d : Int) b.1 b.2 k.batches.length).2
        omega
      · change (clrTo k (d : Int) b.1 b.2 k.batches.length).2 ≤ _
        push_cast
        omega
theorem zf82 (k : Kitchen) (f : FuncId) (d g : Nat) (c : Int) (h : Fn Tryz.prog f [.agg k.cells, .i (d : Int), .i (g : Int)] (.i c)) : Fn Tryz.prog 82 [.i (g : Int), .ptr [.bnd f [.agg k.cells]] 0, .ptr [.i (d : Int)] 0] (.i c) := by
  rw [Kitchen.cells] at h ⊢
  refine z21 9 Tryz.call82 Tryz.func82 rfl (by decide) fun J => ?_
  simp (maxSteps := 4000000) only [go_sem, St.start, Tryz.ntmps82, Tryz.results82]
  repeat (first | refine z14 ?_ | refine z9 ?_ | refine z7 ?_ | (refine z5 fun K hK => ?_; simp (maxSteps := 4000000) only [go_sem]; (repeat (first | (refine ⟨_, .lent (hf := h) (hd := rfl) (hr := rfl), ?_⟩; simp (maxSteps := 4000000) only [go_sem]) | (refine ⟨_, .given (hf := h) (hd := rfl) (ha := rfl), ?_⟩; simp (maxSteps := 4000000) only [go_sem]))); refine hK _ ?_; clear hK K) | refine z13 ?_ | refine z15 ?_ | refine z10 ?_ | refine z8 ?_ | refine z6 rfl ?_ | refine z12 ?_ | refine z3 ?_ | refine z16 ?_ | refine z11 ?_ | refine z4 ?_)
  simp (maxSteps := 4000000) only [go_sem]
end Go.Ab
/- A fresh slice is a deep value too. -/
namespace Go.Ab
open Go.RowKit
theorem FnS.deep {P : Program} {f : FuncId} {args : List DV} {e z : Nat} {rows : List (List DV)} (h : FnS P f args e z rows) : Fn P f args (.sl rows) :=
  ⟨h.1, fun w own vs hb hh hd => (h.2 w own vs hb hh hd).mono fun en w' hq => by
    obtain ⟨v, μ, he, hv, hm, hbl⟩ := hq
    exact ⟨v, he, z60 hm own (fun b hb => .inl hb) (fun _ => True) (fun n b z l c _ hμ => (hm.base n b z l c hμ).2.2) 1 (.own 0) v _ hv rfl (fun _ _ => trivial) (.inl fun _ _ _ _ _ _ => trivial), hbl⟩⟩
theorem FnG.boxNil {P : Program} {f : FuncId} {m0 : List Blk} {pins : List Nat} {args : List AV} {r : AV} {row : List AV} {rest : List Blk} (h : FnG P f m0 pins args r (.box row :: rest)) : FnG P f m0 pins args r (.box [] :: rest) :=
  ⟨h.enters, fun base w own μ0 vs h1 h2 h3 h4 h5 h6 => (h.calls base w own μ0 vs h1 h2 h3 h4 h5 h6).mono fun en w' hq => by
    obtain ⟨v, μ1, he, hv, hm, hk, hp⟩ := hq
    refine ⟨v, μ1, he, hv, ⟨fun n b hb => ?_, fun n hn => ?_, hm.inj, hm.base⟩, hk, hp⟩
    · cases n with
      | zero =>
        have e : Blk.box [] = b := by simpa using hb
        subst e
        obtain ⟨b, cs, ty, g1, g2, _, _⟩ := hm.blk 0 (.box row) rfl
        exact ⟨b, cs, ty, g1, g2, Nat.zero_le _, fun j x v hx => by cases hx⟩
      | succ n => exact hm.blk (n + 1) b (by simpa using hb)
    · obtain ⟨b, hb⟩ := hm.dom n hn
      cases n with
      | zero => exact ⟨.box [], rfl⟩
      | succ n => exact ⟨b, by simpa using hb⟩⟩
def closedM (m : Nat → Bool) : List Oper → Nat → Prop
  | [], _ => True
  | o :: os, i => (m i = false → depsM m o.after.toList) ∧ closedM m os (i + 1)
theorem closedM_of {m : Nat → Bool} : ∀ (os : List Oper) (i : Nat), (∀ r o, os[r]? = some o → m (i + r) = false → depsM m o.after.toList) → closedM m os i
  | [], _, _ => trivial
  | o :: os, i, h => ⟨fun hm => h 0 o rfl hm, closedM_of os (i + 1) fun r o ho hm => h (r + 1) o (by simpa using ho) (by rw [show i + (r + 1) = i + 1 + r by omega]; exact hm)⟩
def stepsC (P : Program) (all : List Oper) (G : (Nat → Bool) → St) : List Oper → Nat → Prop
  | [], _ => True
  | o :: os, i => (∀ m : Nat → Bool, m i = true → depsM m o.after.toList → closedM m all 0 → dstOk o = true ∧ o.guard = none ∧ stepK P o (G m) (fun s => s = G (offM m i))) ∧ stepsC P all G os (i + 1)
def StepC (P : Program) (all : List Oper) (G : (Nat → Bool) → St) (o : Oper) (i : Nat) : Prop := ∀ m : Nat → Bool, m i = true → depsM m o.after.toList → closedM m all 0 → dstOk o = true ∧ o.guard = none ∧ stepK P o (G m) (fun s => s = G (offM m i))
theorem stepsC_get {P : Program} {all : List Oper} {G : (Nat → Bool) → St} : ∀ (os : List Oper) (i r : Nat) (o : Oper), stepsC P all G os i → os[r]? = some o → StepC P all G o (i + r)
  | [], _, _, _, _, ho => by simp at ho
  | p :: os, i, r, o, h, ho => by
    cases r with
    | zero =>
      have e : p = o := by simpa using ho
      rw [← e]
      exact h.1
    | succ r =>
      have h2 := stepsC_get os (i + 1) r o h.2 (by simpa using ho)
      have e : i + 1 + r = i + (r + 1) := by omega
      rw [e] at h2
      exact h2
structure LeftD (ops : Array Oper) (G : (Nat → Bool) → St) (rs : List Nat) (s s' : St) : Prop where
  left : LeftC ops G rs s s'
  done : ∀ (j : Nat) (o : Oper), ops[j]? = some o → j ∉ rs → ∀ e ∈ o.after, Region.binds .any e = true → e.on ∉ rs
section
variable {P : Program} {rd : Option Nat} {n : Nat} {J : Env} {ops : Array Oper} {cs : List Code} {k : Option Nat} {st : St} {Q : Exit → Option Nat → St → Prop}
theorem walk_drawnC {id : Nat} (hfol : P.follows .mixedOrders = true) (hback : backB ops = true) (G : (Nat → Bool) → St) (h0 : G (fun i => decide (i < ops.size)) = st) (hs : stepsC P ops.toList G ops.toList 0) (h : Q .normal k (G fun _ => false)) :
    Walk P rd n J (.region id ops true) k st Q := fun B base out μ tmps w ds _ hst hJ hM => by
  refine z142 (rs := List.range ops.size) (fun i => i) (fun a b => ¬ Anc ops a b) (LeftD ops G) (fun s s' hc => ?_) (fun r rs s s' hc => ?_) (fun r B s s' A hA hc => ?_) hfol hback (by simp) ?_ ?_ hst fun tmps' μ' w' h5 hk hS => .step hJ h5 hk hS hM h
  · rw [hc.left.now, hc.left.fin]
    rfl
  · obtain ⟨⟨h1, h2, h3, h4, h5⟩, h6⟩ := hc
    have hr := h5 r (by simp)
    obtain ⟨o, ho⟩ : ∃ o, ops[r]? = some o := ⟨ops[r], by simp [hr]⟩
    rw [List.pairwise_cons] at h4
    rw [List.nodup_cons] at h3
    have hni : ∀ e ∈ o.after, Region.binds .any e = true → e.on ∉ r :: rs := by
      intro e he hb hc
      have hlt := z287 hback ho he hb
      have hanc : Anc ops e.on r := .edge ho he hb
      rcases List.mem_cons.1 hc with hc | hc
      · omega
      · exact h4.1 _ hc hanc
    have hg := stepsC_get ops.toList 0 r o hs (by simpa using ho) (fun i => (r :: rs).contains i) (by simp) (depsM_of fun e he hb => by
      simpa using hni e (by simpa using he) hb) (closedM_of _ _ fun j q hq hm => depsM_of fun e he hb => by
        have hj : j ∉ r :: rs := by simpa using hm
        simpa using h6 j q (by simpa using hq) hj e (by simpa using he) hb)
    obtain ⟨hd, hgu, hk⟩ := hg
    obtain ⟨s1, hs1, he⟩ := z191 hk
    refine ⟨o, s1, ho, hd, by unfold StepG; rw [hgu, h1]; exact hs1, ?_⟩
    refine ⟨⟨?_, h2, h3.2, h4.2, fun i hi => h5 i (by simp [hi])⟩, fun j q hq hj e he hb hc => ?_⟩
    · rw [he]
      congr 1
      funext j
      unfold offM
      rw [Nat.zero_add]
      by_cases hj : j = r
      · subst hj
        rw [if_pos rfl]
        have : ¬ rs.contains j = true := by simpa using h3.1
        simpa using this
      · rw [if_neg hj]
        simp [hj]
    · by_cases hjr : j = r
      · subst hjr
        rw [hq] at ho
        cases ho
        exact hni e he hb (by simp [hc])
      · exact h6 j q hq (by simp [hjr, hj]) e he hb (by simp [hc])
  · obtain ⟨⟨h1, h2, h3, h4, h5⟩, h6⟩ := hc
    have hsub : (A ++ B).Sublist (A ++ r :: B) := List.Sublist.append_left (List.sublist_cons_self r B) A
    have hmem : ∀ i, i ∈ r :: (A ++ B) ↔ i ∈ A ++ r :: B := by
      intro i
      simp
      constructor
      · rintro (h | h | h) <;> simp [h]
      · rintro (h | h | h) <;> simp [h]
    refine ⟨⟨?_, h2, ?_, ?_, fun i hi => h5 i ((hmem i).1 hi)⟩, fun j q hq hj e he hb hc => h6 j q hq (fun h => hj ((hmem j).2 h)) e he hb ((hmem _).1 hc)⟩
    · rw [h1]
      congr 1
      funext j
      rw [Bool.eq_iff_iff]
      simp
      constructor
      · rintro (h | h | h) <;> simp [h]
      · rintro (h | h | h) <;> simp [h]
    · rw [List.nodup_cons]
      refine ⟨?_, h3.sublist hsub⟩
      rw [List.nodup_append] at h3
      intro hc
      rcases List.mem_append.1 hc with hc | hc
      · exact h3.2.2 r hc r (by simp) rfl
      · exact (List.nodup_cons.1 h3.2.1).1 hc
    · rw [List.pairwise_cons]
      refine ⟨fun b hb => ?_, h4.sublist hsub⟩
      rcases List.mem_append.1 hb with hb | hb
      · exact hA b hb
      · rw [List.pairwise_append] at h4
        exact (List.pairwise_cons.1 h4.2.1).1 b hb
  · have hp : (List.range ops.size).Pairwise (· < ·) := List.pairwise_lt_range
    exact hp.imp fun {a b} _ => Classical.em _
  · refine ⟨⟨?_, rfl, List.nodup_range, ?_, fun i hi => List.mem_range.1 hi⟩, fun j o ho hj => ?_⟩
    · rw [← h0]
      congr 1
      funext i
      rw [Bool.eq_iff_iff]
      simp
    · exact List.pairwise_lt_range.imp fun {a b} hab hc => by
        have := anc_lt hback hc
        omega
    · have := (Array.getElem?_eq_some_iff.1 ho).1
      exact absurd (List.mem_range.2 this) hj
theorem z208 {id : Nat} (hfol : P.follows .mixedOrders = true) (hback : backB ops = true) (G : (Nat → Bool) → St) (h0 : G (fun i => decide (i < ops.size)) = st) (hs : stepsC P ops.toList G ops.toList 0)
    (h : WalkL P rd n J cs k (G fun _ => false) Q) : WalkL P rd n J (.region id ops true :: cs) k st Q :=
  walk_drawnC hfol hback G h0 hs h
end
theorem walkL_lose {P : Program} {rd : Option Nat} {n : Nat} {J : Env} {c : Code} {cs : List Code} {k : Option Nat} {st : St} {Q : Exit → Option Nat → St → Prop} (ds : List Nat) (hw : Weak st (st.head ds [] [])) (h : WalkL P rd n J (c :: cs) k (st.head ds [] []) Q) :
    WalkL P rd n J (c :: cs) k st Q := z186 hw h
end Go.Ab
namespace Go.Ab
open Go.RowKit Go.Proofs
set_option maxHeartbeats 16000000
set_option maxRecDepth 20000
attribute [local irreducible] WalkL Walk
def endSt (k : Kitchen) (M : List (List Int)) (cnt : Nat → Nat → Int) : List Int × Int :=
  let a := (runSt k M cnt (lastD k M cnt M.length)).getD (amtK k, 0)
  if lastD k M cnt M.length < M.length then clrD k (lastD k M cnt M.length) a else a
def leftAt (i : Nat) (a : List Int) : AV := if i = 0 then .own 1 else .d (.sl (intRows a))
def left0 (k : Kitchen) : List Int := (clrD k 0 (amtK k, 0)).1
def runBlks (k : Kitchen) (M : List (List Int)) (cnt : Nat → Nat → Int) : List Blk :=
  [.box (lardRow k (leftAt (lastD k M cnt M.length) (endSt k M cnt).1) (.own 2) (endSt k M cnt).2), .arr 3 1 (intRows (left0 k)), .arr 3 1 (natRows (ordK k))]
def nmL (p : Nat) : Nat := if p = 0 then 34 else p
theorem leftAt_own {i : Nat} (h : i = 0) (a : List Int) : leftAt i a = .own 1 := by rw [leftAt, if_pos h]
theorem z264 {i : Nat} (h : i ≠ 0) (a : List Int) : leftAt i a = .d (.sl (intRows a)) := by rw [leftAt, if_neg h]
theorem zf43 (k : Kitchen) (hg : KitGood k) (M : List (List Int)) (hM : shapedB (menuB k) M k.days = true) (f : FuncId) (cnt : Nat → Nat → Int) (hc : CntOk k cnt)
    (hf : ∀ d g, d < k.days.length → g < (k.days.getD d []).length → Fn Tryz.prog f [.agg k.cells, .i (d : Int), .i (g : Int)] (.i (cnt d g))) :
    FnG Tryz.prog 43 [.box (lardRow k (.own 1) (.own 2) 0), .arr 3 1 (intRows (amtK k)), .arr 3 1 (natRows (ordK k))] [0] [.box 0 0, .d (.sl (listRows M)), .d (.bnd f [.agg k.cells])] (.d (.i (lastD k M cnt M.length : Nat))) (runBlks k M cnt) := by
  have hbl := hg.batches
  have hdl := hg.days
  have hMl := z74 hM
  have hgo := hg.goods
  obtain ⟨A0, hA0⟩ : ∃ a, a = left0 k := ⟨_, rfl⟩
  refine z87 33 Tryz.call43 Tryz.func43 rfl (by decide) [] [(0, 0)] (by simp only [List.length_cons, List.length_nil]; decide) (by kernel_rfl) fun J => ?_
  simp (maxSteps := 4000000) only [go_sem, St.startG, Tryz.ntmps43, Tryz.results43, List.map_cons, List.map_nil, List.range_succ,  lardRow]
  repeat (first | refine z14 ?_ | refine z9 ?_ | refine z7 ?_ | refine z13 ?_ | refine z3 ?_ | refine z4 ?_)
  refine z5 fun K hK => ?_
  simp (maxSteps := 4000000) only [go_sem]
  refine hK _ ?_
  clear hK K
  refine z31 [5] ?_
  simp (maxSteps := 4000000) only [go_sem]
  repeat (first | refine z14 ?_ | refine z9 ?_ | refine z7 ?_ | (refine z5 fun K hK => ?_; simp (maxSteps := 4000000) only [go_sem, z39]; refine hK _ ?_; clear hK K) | refine z13 ?_ | refine z15 ?_ | refine z10 ?_ | refine z8 ?_ | refine z6 rfl ?_ | refine z12 ?_ | refine z3 ?_ | refine z16 ?_ | refine z11 ?_ | refine z4 ?_)
  refine z22 (fun (q : Nat × Nat × List Int × Int) => [(11, .d (.i (q.1 : Int)))])
    (fun q => [(33, some (.box (lardRow k (.own (nmL q.2.1)) (.own 35) q.2.2.2))), (34, some (.arr 3 1 (intRows (if q.2.1 = 0 then q.2.2.1 else A0)))), (1, if q.2.1 = 1 then some (.arr 3 1 (intRows q.2.2.1)) else none), (2, if q.2.1 = 2 then some (.arr 3 1 (intRows q.2.2.1)) else none)])
    (fun q => q.1 ≤ M.length ∧ runSt k M cnt q.1 = some q.2.2 ∧ (q.2.1 = 0 → q.1 = 0 ∧ q.2.2.1 = amtK k) ∧ (q.1 = 0 → q.2.1 = 0) ∧ q.2.1 < 3) (fun q => M.length - q.1) (0, 0, amtK k, 0) ?_ ⟨Nat.zero_le _, rfl, fun _ => ⟨rfl, rfl⟩, fun _ => rfl, Nat.zero_lt_succ _⟩ ?_
  · simp (maxSteps := 4000000) only [go_sem, nmL, lardRow]
    refine z19 [] ?_ ?_ rfl rfl <;> simp [lessT, lessM, lessB, AV.less]
    all_goals first | done | rfl | exact ⟨rfl, rfl⟩ | trace_state
  · rintro ⟨d, p, l, w⟩ ⟨hd, hrun, hp0, hd0, hp3⟩
    dsimp only at hd hrun hp0 hd0 hp3
    obtain ⟨hla, hll, hw0, hw1⟩ := runSt_ok hg hM hc d (l, w) hd hrun
    dsimp only at hla hll hw0 hw1
    have hw2 : w ≤ 2 ^ 40 := by omega
    have hsome : (runSt k M cnt d).isSome = true := by rw [hrun]; rfl
    have hlast : d = M.length → lastD k M cnt M.length = d ∧ endSt k M cnt = (l, w) := fun he => by
      have e : lastD k M cnt M.length = d := by rw [← he]; exact z265 hsome
      refine ⟨e, ?_⟩
      rw [endSt, e, hrun, if_neg (by omega)]
      rfl
    have hstop : d < M.length → runSt k M cnt (d + 1) = none → lastD k M cnt M.length = d ∧ endSt k M cnt = clrD k d (l, w) := fun hlt hn => by
      have e : lastD k M cnt M.length = d := lastD_stop hsome hn (by omega)
      refine ⟨e, ?_⟩
      rw [endSt, e, hrun, if_pos hlt]
      rfl
    have hstep : d < M.length → runSt k M cnt (d + 1) = (takeTo k (ordK k) (needD k M cnt d) (clrD k d (l, w)).1 k.allerg.length).map fun c => (c, (clrD k d (l, w)).2) := fun _ => by rw [runSt, hrun]
    rcases (by omega : p = 0 ∨ p = 1 ∨ p = 2) with hp | hp | hp
    · -- phase 0
      subst hp
      obtain ⟨hz0, hl1⟩ := hp0 rfl
      have hLA := leftAt_own hz0
      simp (maxSteps := 4000000) only [go_sem, nmL, lardRow]
      repeat (first | refine z14 ?_ | refine z9 ?_ | refine z7 ?_ | (refine z5 fun K hK => ?_; simp (maxSteps := 4000000) only [go_sem]; refine hK _ ?_; clear hK K) | refine z13 ?_ | refine z15 ?_ | refine z10 ?_ | refine z8 ?_ | refine z6 rfl ?_ | refine z12 ?_ | refine z3 ?_ | refine z16 ?_ | refine z11 ?_ | refine z4 ?_)
      refine z20 rfl (fun hb => ?_) (fun hb => ?_)
      · have hlt : d < M.length := by simpa using hb
        have hw : IntKind.i64.wrap ((d : Int) + 1) = ((d + 1 : Nat) : Int) := by rw [z23 (by omega)]; simp
        obtain ⟨r, hr⟩ : ∃ r, M[d]? = some r := ⟨_, List.getElem?_eq_getElem hlt⟩
        obtain ⟨hdd, hrl, hday⟩ := z280 hg hM hc hr
        have g1 := z62 hr
        have hni : ¬ ((d : Int) < 0) := by omega
        have hnd : needD k M cnt d = needL k r (cnt d) := by rw [needD, List.getD, hr]; rfl
        have hst := hstep hlt
        have hsp := hstop hlt
        rw [hnd] at hst
        have h86 := zf46 k hbl (d : Int) l (ordK k) w hll hla ⟨hw0, hw2⟩
        obtain ⟨c1, c2, c3⟩ := z80 (k := k) (day := (d : Int)) (w := w) hla k.batches.length
        have c4 := z55 k (d : Int) l w k.batches.length
        change runSt k M cnt (d + 1) = (takeTo k (ordK k) (needL k r (cnt d)) (clrTo k (d : Int) l w k.batches.length).1 k.allerg.length).map fun c => (c, (clrTo k (d : Int) l w k.batches.length).2) at hst
        change runSt k M cnt (d + 1) = none → lastD k M cnt M.length = d ∧ endSt k M cnt = clrTo k (d : Int) l w k.batches.length at hsp
        obtain ⟨⟨C, v⟩, hC⟩ : ∃ a, a = clrTo k (d : Int) l w k.batches.length := ⟨_, rfl⟩
        rw [← hC] at h86 c1 c2 c3 c4 hst hsp
        dsimp only at c1 c2 c3 c4 hst
        have hAC : C = A0 := by
          have h0 : (l, w) = (amtK k, 0) := by rw [hz0] at hrun; exact (Option.some.inj hrun).symm
          rw [hA0, left0, clrD, ← h0]
          rw [hz0] at hC
          exact congrArg Prod.fst hC
        subst hAC
        have h87 := (zf47 k hg r (cnt d) 82 [.ptr [.bnd f [.agg k.cells]] 0, .ptr [.i (d : Int)] 0] hday (fun j hj => zf82 k f d j (cnt d j) (hf d j hdd (by omega)))).deep
        have h141 := zf63 k (needL k r (cnt d)) C (ordK k) v (by omega) hbl c1 (z118 hg hday) (by rw [z98]; exact hgo.2) (fun x hx => z176 hx) (by rw [z224]; exact hbl)
        rw [z98] at h141
        simp only [lardRow] at h86
        rw [Kitchen.cells] at h87
        obtain ⟨N, hN⟩ : ∃ N, N = needL k r (cnt d) := ⟨_, rfl⟩
        rw [← hN] at h87 h141 hst
        repeat (first | refine z14 ?_ | refine z9 ?_ | refine z7 ?_ | refine z13 ?_ | refine z3 ?_ | refine z4 ?_)
        refine z5 fun K hK => ?_
        simp (maxSteps := 4000000) only [go_sem, g1, hni]
        refine hK _ ?_
        clear hK K
        refine z31 [7] ?_
        simp (maxSteps := 4000000) only [go_sem]
        repeat (first | refine z14 ?_ | refine z9 ?_ | refine z7 ?_ | refine z13 ?_ | refine z3 ?_ | refine z4 ?_)
        refine z5 fun K hK => ?_
        simp (maxSteps := 4000000) only [go_sem]
        refine ⟨_, .own (ns := [33, 34, 35]) (news := []) (bads := [34, 35]) (rd := []) (hf := h86) (hnd := by decide) (hl0 := rfl) (hl1 := rfl) (hm := by repeat (first | exact trivial | refine And.intro ?_ ?_ | rfl)) (hnew := rfl) (hla := rfl) (ha := z47 (by repeat (first | exact trivial | refine And.intro ?_ ?_ | exact z49 rfl | exact z42 rfl rfl))) (hrd := rfl) (hsh := z43 _) (hb := rfl) (hfl := .inl rfl), ?_⟩
        simp (maxSteps := 4000000) only [go_sem, List.map_cons, List.map_nil]
        refine hK _ ?_
        clear hK K
        cases htk : takeTo k (ordK k) N C k.allerg.length with
        | none =>
          rw [htk] at h141 hst
          obtain ⟨hD, hE⟩ := hsp hst
          simp only [takeBlks, lardRow, Option.isSome_none] at h141
          repeat (first | refine z14 ?_ | refine z9 ?_ | refine z7 ?_ | refine z13 ?_ | refine z3 ?_ | refine z4 ?_)
          refine z5 fun K hK => ?_
          simp (maxSteps := 4000000) only [go_sem]
          refine ⟨_, .given (hf := h87) (hd := rfl) (ha := rfl), ?_⟩
          simp (maxSteps := 4000000) only [go_sem]
          refine ⟨_, .own (ns := [33, 34, 35]) (news := []) (bads := [34, 35]) (rd := []) (hf := h141) (hnd := by decide) (hl0 := rfl) (hl1 := rfl) (hm := by repeat (first | exact trivial | refine And.intro ?_ ?_ | rfl)) (hnew := rfl) (hla := rfl) (ha := z47 (by repeat (first | exact trivial | refine And.intro ?_ ?_ | exact z49 rfl | exact z42 rfl rfl))) (hrd := rfl) (hsh := z43 _) (hb := rfl) (hfl := .inl rfl), ?_⟩
          simp (maxSteps := 4000000) only [go_sem, List.map_cons, List.map_nil]
          refine hK _ ?_
          clear hK K
          repeat (first | refine z14 ?_ | refine z9 ?_ | refine z7 ?_ | (refine z5 fun K hK => ?_; simp (maxSteps := 4000000) only [go_sem]; refine hK _ ?_; clear hK K) | refine z13 ?_ | refine z15 ?_ | refine z10 ?_ | refine z8 ?_ | refine z6 rfl ?_ | refine z12 ?_ | refine z3 ?_ | refine z16 ?_ | refine z11 ?_ | refine z4 ?_)
          repeat (first | refine z18 rfl ?_ | refine z17 rfl ?_ | refine z14 ?_ | refine z9 ?_ | refine z7 ?_ | (refine z5 fun K hK => ?_; simp (maxSteps := 4000000) only [go_sem]; refine hK _ ?_; clear hK K) | refine z13 ?_ | refine z15 ?_ | refine z10 ?_ | refine z8 ?_ | refine z6 rfl ?_ | refine z12 ?_ | refine z3 ?_ | refine z16 ?_ | refine z11 ?_ | refine z4 ?_)
          simp (maxSteps := 4000000) only [go_sem, retG, runBlks, lardRow, hD, hE, hLA, ← hA0]
        | some c =>
          rw [htk] at h141 hst
          simp only [takeBlks, lardRow, Option.isSome_some] at h141
          repeat (first | refine z14 ?_ | refine z9 ?_ | refine z7 ?_ | refine z13 ?_ | refine z3 ?_ | refine z4 ?_)
          refine z5 fun K hK => ?_
          simp (maxSteps := 4000000) only [go_sem]
          refine ⟨_, .given (hf := h87) (hd := rfl) (ha := rfl), ?_⟩
          simp (maxSteps := 4000000) only [go_sem]
          refine ⟨_, .own (ns := [33, 34, 35]) (news := [2]) (bads := [34, 35]) (rd := []) (hf := h141) (hnd := by decide) (hl0 := rfl) (hl1 := rfl) (hm := by repeat (first | exact trivial | refine And.intro ?_ ?_ | rfl)) (hnew := rfl) (hla := rfl) (ha := z47 (by repeat (first | exact trivial | refine And.intro ?_ ?_ | exact z49 rfl | exact z42 rfl rfl))) (hrd := rfl) (hsh := z43 _) (hb := rfl) (hfl := .inl rfl), ?_⟩
          simp (maxSteps := 4000000) only [go_sem, List.map_cons, List.map_nil]
          refine hK _ ?_
          clear hK K
          repeat (first | refine z18 rfl ?_ | refine z17 rfl ?_ | refine z14 ?_ | refine z9 ?_ | refine z7 ?_ | (refine z5 fun K hK => ?_; simp (maxSteps := 4000000) only [go_sem, hw]; refine hK _ ?_; clear hK K) | refine z13 ?_ | refine z15 ?_ | refine z10 ?_ | refine z8 ?_ | refine z6 rfl ?_ | refine z12 ?_ | refine z3 ?_ | refine z16 ?_ | refine z11 ?_ | refine z4 ?_)
          refine ⟨rfl, (d + 1, 2, c, v), ?_, ⟨hlt, hst, fun h => absurd (show 2 = 0 from h) (by decide), fun h => absurd (show d + 1 = 0 from h) (by omega), (by decide : 2 < 3)⟩, by dsimp only; omega⟩
          simp (maxSteps := 4000000) only [go_sem, nmL, lardRow]
          refine z19 [] ?_ ?_ rfl rfl <;> simp [lessT, lessM, lessB, AV.less]
          all_goals first | done | rfl | exact ⟨rfl, rfl⟩ | trace_state
      · have he : d = M.length := by (have : ¬ d < M.length := by simpa using hb); omega
        subst he
        exfalso
        omega
    · -- phase 1
      subst hp
      have hpos : d ≠ 0 := fun h => by have := hd0 h; omega
      have hLA := z264 hpos
      simp (maxSteps := 4000000) only [go_sem, nmL, lardRow]
      repeat (first | refine z14 ?_ | refine z9 ?_ | refine z7 ?_ | (refine z5 fun K hK => ?_; simp (maxSteps := 4000000) only [go_sem]; refine hK _ ?_; clear hK K) | refine z13 ?_ | refine z15 ?_ | refine z10 ?_ | refine z8 ?_ | refine z6 rfl ?_ | refine z12 ?_ | refine z3 ?_ | refine z16 ?_ | refine z11 ?_ | refine z4 ?_)
      refine z20 rfl (fun hb => ?_) (fun hb => ?_)
      · have hlt : d < M.length := by simpa using hb
        have hw : IntKind.i64.wrap ((d : Int) + 1) = ((d + 1 : Nat) : Int) := by rw [z23 (by omega)]; simp
        obtain ⟨r, hr⟩ : ∃ r, M[d]? = some r := ⟨_, List.getElem?_eq_getElem hlt⟩
        obtain ⟨hdd, hrl, hday⟩ := z280 hg hM hc hr
        have g1 := z62 hr
        have hni : ¬ ((d : Int) < 0) := by omega
        have hnd : needD k M cnt d = needL k r (cnt d) := by rw [needD, List.getD, hr]; rfl
        have hst := hstep hlt
        have hsp := hstop hlt
        rw [hnd] at hst
        have h86 := zf46 k hbl (d : Int) l (ordK k) w hll hla ⟨hw0, hw2⟩
        obtain ⟨c1, c2, c3⟩ := z80 (k := k) (day := (d : Int)) (w := w) hla k.batches.length
        have c4 := z55 k (d : Int) l w k.batches.length
        change runSt k M cnt (d + 1) = (takeTo k (ordK k) (needL k r (cnt d)) (clrTo k (d : Int) l w k.batches.length).1 k.allerg.length).map fun c => (c, (clrTo k (d : Int) l w k.batches.length).2) at hst
        change runSt k M cnt (d + 1) = none → lastD k M cnt M.length = d ∧ endSt k M cnt = clrTo k (d : Int) l w k.batches.length at hsp
        obtain ⟨⟨C, v⟩, hC⟩ : ∃ a, a = clrTo k (d : Int) l w k.batches.length := ⟨_, rfl⟩
        rw [← hC] at h86 c1 c2 c3 c4 hst hsp
        dsimp only at c1 c2 c3 c4 hst
        have h87 := (zf47 k hg r (cnt d) 82 [.ptr [.bnd f [.agg k.cells]] 0, .ptr [.i (d : Int)] 0] hday (fun j hj => zf82 k f d j (cnt d j) (hf d j hdd (by omega)))).deep
        have h141 := zf63 k (needL k r (cnt d)) C (ordK k) v (by omega) hbl c1 (z118 hg hday) (by rw [z98]; exact hgo.2) (fun x hx => z176 hx) (by rw [z224]; exact hbl)
        rw [z98] at h141
        simp only [lardRow] at h86
        rw [Kitchen.cells] at h87
        obtain ⟨N, hN⟩ : ∃ N, N = needL k r (cnt d) := ⟨_, rfl⟩
        rw [← hN] at h87 h141 hst
        repeat (first | refine z14 ?_ | refine z9 ?_ | refine z7 ?_ | refine z13 ?_ | refine z3 ?_ | refine z4 ?_)
        refine z5 fun K hK => ?_
        simp (maxSteps := 4000000) only [go_sem, g1, hni]
        refine hK _ ?_
        clear hK K
        refine z31 [7] ?_
        simp (maxSteps := 4000000) only [go_sem]
        repeat (first | refine z14 ?_ | refine z9 ?_ | refine z7 ?_ | refine z13 ?_ | refine z3 ?_ | refine z4 ?_)
        refine z5 fun K hK => ?_
        simp (maxSteps := 4000000) only [go_sem]
        refine ⟨_, .own (ns := [33, 1, 35]) (news := []) (bads := [1, 35]) (rd := []) (hf := h86) (hnd := by decide) (hl0 := rfl) (hl1 := rfl) (hm := by repeat (first | exact trivial | refine And.intro ?_ ?_ | rfl)) (hnew := rfl) (hla := rfl) (ha := z47 (by repeat (first | exact trivial | refine And.intro ?_ ?_ | exact z49 rfl | exact z42 rfl rfl))) (hrd := rfl) (hsh := z43 _) (hb := rfl) (hfl := .inl rfl), ?_⟩
        simp (maxSteps := 4000000) only [go_sem, List.map_cons, List.map_nil]
        refine hK _ ?_
        clear hK K
        cases htk : takeTo k (ordK k) N C k.allerg.length with
        | none =>
          rw [htk] at h141 hst
          obtain ⟨hD, hE⟩ := hsp hst
          simp only [takeBlks, lardRow, Option.isSome_none] at h141
          repeat (first | refine z14 ?_ | refine z9 ?_ | refine z7 ?_ | refine z13 ?_ | refine z3 ?_ | refine z4 ?_)
          refine z5 fun K hK => ?_
          simp (maxSteps := 4000000) only [go_sem]
          refine ⟨_, .given (hf := h87) (hd := rfl) (ha := rfl), ?_⟩
          simp (maxSteps := 4000000) only [go_sem]
          refine ⟨_, .own (ns := [33, 1, 35]) (news := []) (bads := [1, 35]) (rd := []) (hf := h141) (hnd := by decide) (hl0 := rfl) (hl1 := rfl) (hm := by repeat (first | exact trivial | refine And.intro ?_ ?_ | rfl)) (hnew := rfl) (hla := rfl) (ha := z47 (by repeat (first | exact trivial | refine And.intro ?_ ?_ | exact z49 rfl | exact z42 rfl rfl))) (hrd := rfl) (hsh := z43 _) (hb := rfl) (hfl := .inl rfl), ?_⟩
          simp (maxSteps := 4000000) only [go_sem, List.map_cons, List.map_nil]
          refine hK _ ?_
          clear hK K
          repeat (first | refine z14 ?_ | refine z9 ?_ | refine z7 ?_ | (refine z5 fun K hK => ?_; simp (maxSteps := 4000000) only [go_sem]; refine hK _ ?_; clear hK K) | refine z13 ?_ | refine z15 ?_ | refine z10 ?_ | refine z8 ?_ | refine z6 rfl ?_ | refine z12 ?_ | refine z3 ?_ | refine z16 ?_ | refine z11 ?_ | refine z4 ?_)
          refine z31 [1] ?_
          simp (maxSteps := 4000000) only [go_sem]
          repeat (first | refine z18 rfl ?_ | refine z17 rfl ?_ | refine z14 ?_ | refine z9 ?_ | refine z7 ?_ | (refine z5 fun K hK => ?_; simp (maxSteps := 4000000) only [go_sem]; refine hK _ ?_; clear hK K) | refine z13 ?_ | refine z15 ?_ | refine z10 ?_ | refine z8 ?_ | refine z6 rfl ?_ | refine z12 ?_ | refine z3 ?_ | refine z16 ?_ | refine z11 ?_ | refine z4 ?_)
          simp (maxSteps := 4000000) only [go_sem, retG, runBlks, lardRow, hD, hE, hLA, ← hA0]
        | some c =>
          rw [htk] at h141 hst
          simp only [takeBlks, lardRow, Option.isSome_some] at h141
          repeat (first | refine z14 ?_ | refine z9 ?_ | refine z7 ?_ | refine z13 ?_ | refine z3 ?_ | refine z4 ?_)
          refine z5 fun K hK => ?_
          simp (maxSteps := 4000000) only [go_sem]
          refine ⟨_, .given (hf := h87) (hd := rfl) (ha := rfl), ?_⟩
          simp (maxSteps := 4000000) only [go_sem]
          refine ⟨_, .own (ns := [33, 1, 35]) (news := [2]) (bads := [1, 35]) (rd := []) (hf := h141) (hnd := by decide) (hl0 := rfl) (hl1 := rfl) (hm := by repeat (first | exact trivial | refine And.intro ?_ ?_ | rfl)) (hnew := rfl) (hla := rfl) (ha := z47 (by repeat (first | exact trivial | refine And.intro ?_ ?_ | exact z49 rfl | exact z42 rfl rfl))) (hrd := rfl) (hsh := z43 _) (hb := rfl) (hfl := .inl rfl), ?_⟩
          simp (maxSteps := 4000000) only [go_sem, List.map_cons, List.map_nil]
          refine hK _ ?_
          clear hK K
          repeat (first | refine z18 rfl ?_ | refine z17 rfl ?_ | refine z14 ?_ | refine z9 ?_ | refine z7 ?_ | (refine z5 fun K hK => ?_; simp (maxSteps := 4000000) only [go_sem, hw]; refine hK _ ?_; clear hK K) | refine z13 ?_ | refine z15 ?_ | refine z10 ?_ | refine z8 ?_ | refine z6 rfl ?_ | refine z12 ?_ | refine z3 ?_ | refine z16 ?_ | refine z11 ?_ | refine z4 ?_)
          refine ⟨rfl, (d + 1, 2, c, v), ?_, ⟨hlt, hst, fun h => absurd (show 2 = 0 from h) (by decide), fun h => absurd (show d + 1 = 0 from h) (by omega), (by decide : 2 < 3)⟩, by dsimp only; omega⟩
          simp (maxSteps := 4000000) only [go_sem, nmL, lardRow]
          refine z19 [] ?_ ?_ rfl rfl <;> simp [lessT, lessM, lessB, AV.less]
          all_goals first | done | rfl | exact ⟨rfl, rfl⟩ | trace_state
      · have he : d = M.length := by (have : ¬ d < M.length := by simpa using hb); omega
        subst he
        obtain ⟨hD, hE⟩ := hlast rfl
        refine z31 [1] ?_
        simp (maxSteps := 4000000) only [go_sem]
        repeat (first | refine z14 ?_ | refine z9 ?_ | refine z7 ?_ | (refine z5 fun K hK => ?_; simp (maxSteps := 4000000) only [go_sem]; refine hK _ ?_; clear hK K) | refine z13 ?_ | refine z15 ?_ | refine z10 ?_ | refine z8 ?_ | refine z6 rfl ?_ | refine z12 ?_ | refine z3 ?_ | refine z16 ?_ | refine z11 ?_ | refine z4 ?_)
        simp (maxSteps := 4000000) only [go_sem, retG, runBlks, lardRow, hD, hE, hLA, ← hA0]
    · -- phase 2
      subst hp
      have hpos : d ≠ 0 := fun h => by have := hd0 h; omega
      have hLA := z264 hpos
      simp (maxSteps := 4000000) only [go_sem, nmL, lardRow]
      repeat (first | refine z14 ?_ | refine z9 ?_ | refine z7 ?_ | (refine z5 fun K hK => ?_; simp (maxSteps := 4000000) only [go_sem]; refine hK _ ?_; clear hK K) | refine z13 ?_ | refine z15 ?_ | refine z10 ?_ | refine z8 ?_ | refine z6 rfl ?_ | refine z12 ?_ | refine z3 ?_ | refine z16 ?_ | refine z11 ?_ | refine z4 ?_)
      refine z20 rfl (fun hb => ?_) (fun hb => ?_)
      · have hlt : d < M.length := by simpa using hb
        have hw : IntKind.i64.wrap ((d : Int) + 1) = ((d + 1 : Nat) : Int) := by rw [z23 (by omega)]; simp
        obtain ⟨r, hr⟩ : ∃ r, M[d]? = some r := ⟨_, List.getElem?_eq_getElem hlt⟩
        obtain ⟨hdd, hrl, hday⟩ := z280 hg hM hc hr
        have g1 := z62 hr
        have hni : ¬ ((d : Int) < 0) := by omega
        have hnd : needD k M cnt d = needL k r (cnt d) := by rw [needD, List.getD, hr]; rfl
        have hst := hstep hlt
        have hsp := hstop hlt
        rw [hnd] at hst
        have h86 := zf46 k hbl (d : Int) l (ordK k) w hll hla ⟨hw0, hw2⟩
        obtain ⟨c1, c2, c3⟩ := z80 (k := k) (day := (d : Int)) (w := w) hla k.batches.length
        have c4 := z55 k (d : Int) l w k.batches.length
        change runSt k M cnt (d + 1) = (takeTo k (ordK k) (needL k r (cnt d)) (clrTo k (d : Int) l w k.batches.length).1 k.allerg.length).map fun c => (c, (clrTo k (d : Int) l w k.batches.length).2) at hst
        change runSt k M cnt (d + 1) = none → lastD k M cnt M.length = d ∧ endSt k M cnt = clrTo k (d : Int) l w k.batches.length at hsp
        obtain ⟨⟨C, v⟩, hC⟩ : ∃ a, a = clrTo k (d : Int) l w k.batches.length := ⟨_, rfl⟩
        rw [← hC] at h86 c1 c2 c3 c4 hst hsp
        dsimp only at c1 c2 c3 c4 hst
        have h87 := (zf47 k hg r (cnt d) 82 [.ptr [.bnd f [.agg k.cells]] 0, .ptr [.i (d : Int)] 0] hday (fun j hj => zf82 k f d j (cnt d j) (hf d j hdd (by omega)))).deep
        have h141 := zf63 k (needL k r (cnt d)) C (ordK k) v (by omega) hbl c1 (z118 hg hday) (by rw [z98]; exact hgo.2) (fun x hx => z176 hx) (by rw [z224]; exact hbl)
        rw [z98] at h141
        simp only [lardRow] at h86
        rw [Kitchen.cells] at h87
        obtain ⟨N, hN⟩ : ∃ N, N = needL k r (cnt d) := ⟨_, rfl⟩
        rw [← hN] at h87 h141 hst
        repeat (first | refine z14 ?_ | refine z9 ?_ | refine z7 ?_ | refine z13 ?_ | refine z3 ?_ | refine z4 ?_)
        refine z5 fun K hK => ?_
        simp (maxSteps := 4000000) only [go_sem, g1, hni]
        refine hK _ ?_
        clear hK K
        refine z31 [7] ?_
        simp (maxSteps := 4000000) only [go_sem]
        repeat (first | refine z14 ?_ | refine z9 ?_ | refine z7 ?_ | refine z13 ?_ | refine z3 ?_ | refine z4 ?_)
        refine z5 fun K hK => ?_
        simp (maxSteps := 4000000) only [go_sem]
        refine ⟨_, .own (ns := [33, 2, 35]) (news := []) (bads := [2, 35]) (rd := []) (hf := h86) (hnd := by decide) (hl0 := rfl) (hl1 := rfl) (hm := by repeat (first | exact trivial | refine And.intro ?_ ?_ | rfl)) (hnew := rfl) (hla := rfl) (ha := z47 (by repeat (first | exact trivial | refine And.intro ?_ ?_ | exact z49 rfl | exact z42 rfl rfl))) (hrd := rfl) (hsh := z43 _) (hb := rfl) (hfl := .inl rfl), ?_⟩
        simp (maxSteps := 4000000) only [go_sem, List.map_cons, List.map_nil]
        refine hK _ ?_
        clear hK K
        cases htk : takeTo k (ordK k) N C k.allerg.length with
        | none =>
          rw [htk] at h141 hst
          obtain ⟨hD, hE⟩ := hsp hst
          simp only [takeBlks, lardRow, Option.isSome_none] at h141
          repeat (first | refine z14 ?_ | refine z9 ?_ | refine z7 ?_ | refine z13 ?_ | refine z3 ?_ | refine z4 ?_)
          refine z5 fun K hK => ?_
          simp (maxSteps := 4000000) only [go_sem]
          refine ⟨_, .given (hf := h87) (hd := rfl) (ha := rfl), ?_⟩
          simp (maxSteps := 4000000) only [go_sem]
          refine ⟨_, .own (ns := [33, 2, 35]) (news := []) (bads := [2, 35]) (rd := []) (hf := h141) (hnd := by decide) (hl0 := rfl) (hl1 := rfl) (hm := by repeat (first | exact trivial | refine And.intro ?_ ?_ | rfl)) (hnew := rfl) (hla := rfl) (ha := z47 (by repeat (first | exact trivial | refine And.intro ?_ ?_ | exact z49 rfl | exact z42 rfl rfl))) (hrd := rfl) (hsh := z43 _) (hb := rfl) (hfl := .inl rfl), ?_⟩
          simp (maxSteps := 4000000) only [go_sem, List.map_cons, List.map_nil]
          refine hK _ ?_
          clear hK K
          repeat (first | refine z14 ?_ | refine z9 ?_ | refine z7 ?_ | (refine z5 fun K hK => ?_; simp (maxSteps := 4000000) only [go_sem]; refine hK _ ?_; clear hK K) | refine z13 ?_ | refine z15 ?_ | refine z10 ?_ | refine z8 ?_ | refine z6 rfl ?_ | refine z12 ?_ | refine z3 ?_ | refine z16 ?_ | refine z11 ?_ | refine z4 ?_)
          refine z31 [2] ?_
          simp (maxSteps := 4000000) only [go_sem]
          repeat (first | refine z18 rfl ?_ | refine z17 rfl ?_ | refine z14 ?_ | refine z9 ?_ | refine z7 ?_ | (refine z5 fun K hK => ?_; simp (maxSteps := 4000000) only [go_sem]; refine hK _ ?_; clear hK K) | refine z13 ?_ | refine z15 ?_ | refine z10 ?_ | refine z8 ?_ | refine z6 rfl ?_ | refine z12 ?_ | refine z3 ?_ | refine z16 ?_ | refine z11 ?_ | refine z4 ?_)
          simp (maxSteps := 4000000) only [go_sem, retG, runBlks, lardRow, hD, hE, hLA, ← hA0]
        | some c =>
          rw [htk] at h141 hst
          simp only [takeBlks, lardRow, Option.isSome_some] at h141
          repeat (first | refine z14 ?_ | refine z9 ?_ | refine z7 ?_ | refine z13 ?_ | refine z3 ?_ | refine z4 ?_)
          refine z5 fun K hK => ?_
          simp (maxSteps := 4000000) only [go_sem]
          refine ⟨_, .given (hf := h87) (hd := rfl) (ha := rfl), ?_⟩
          simp (maxSteps := 4000000) only [go_sem]
          refine ⟨_, .own (ns := [33, 2, 35]) (news := [1]) (bads := [2, 35]) (rd := []) (hf := h141) (hnd := by decide) (hl0 := rfl) (hl1 := rfl) (hm := by repeat (first | exact trivial | refine And.intro ?_ ?_ | rfl)) (hnew := rfl) (hla := rfl) (ha := z47 (by repeat (first | exact trivial | refine And.intro ?_ ?_ | exact z49 rfl | exact z42 rfl rfl))) (hrd := rfl) (hsh := z43 _) (hb := rfl) (hfl := .inl rfl), ?_⟩
          simp (maxSteps := 4000000) only [go_sem, List.map_cons, List.map_nil]
          refine hK _ ?_
          clear hK K
          repeat (first | refine z18 rfl ?_ | refine z17 rfl ?_ | refine z14 ?_ | refine z9 ?_ | refine z7 ?_ | (refine z5 fun K hK => ?_; simp (maxSteps := 4000000) only [go_sem, hw]; refine hK _ ?_; clear hK K) | refine z13 ?_ | refine z15 ?_ | refine z10 ?_ | refine z8 ?_ | refine z6 rfl ?_ | refine z12 ?_ | refine z3 ?_ | refine z16 ?_ | refine z11 ?_ | refine z4 ?_)
          refine ⟨rfl, (d + 1, 1, c, v), ?_, ⟨hlt, hst, fun h => absurd (show 1 = 0 from h) (by decide), fun h => absurd (show d + 1 = 0 from h) (by omega), (by decide : 1 < 3)⟩, by dsimp only; omega⟩
          simp (maxSteps := 4000000) only [go_sem, nmL, lardRow]
          refine z19 [] ?_ ?_ rfl rfl <;> simp [lessT, lessM, lessB, AV.less]
          all_goals first | done | rfl | exact ⟨rfl, rfl⟩ | trace_state
      · have he : d = M.length := by (have : ¬ d < M.length := by simpa using hb); omega
        subst he
        obtain ⟨hD, hE⟩ := hlast rfl
        refine z31 [2] ?_
        simp (maxSteps := 4000000) only [go_sem]
        repeat (first | refine z14 ?_ | refine z9 ?_ | refine z7 ?_ | (refine z5 fun K hK => ?_; simp (maxSteps := 4000000) only [go_sem]; refine hK _ ?_; clear hK K) | refine z13 ?_ | refine z15 ?_ | refine z10 ?_ | refine z8 ?_ | refine z6 rfl ?_ | refine z12 ?_ | refine z3 ?_ | refine z16 ?_ | refine z11 ?_ | refine z4 ?_)
        simp (maxSteps := 4000000) only [go_sem, retG, runBlks, lardRow, hD, hE, hLA, ← hA0]
end Go.Ab
namespace Go.Ab
open Go.RowKit Go.Proofs
set_option maxHeartbeats 16000000
set_option maxRecDepth 20000
attribute [local irreducible] WalkL Walk
def sel (b : Bool) (d : DV) : AV := bif b then .undef else .d d
@[go_sem] theorem sel_true (d : DV) : sel true d = .undef := rfl
@[go_sem] theorem sel_false (d : DV) : sel false d = .d d := rfl
@[go_sem] theorem sel_mapN (h : Nat → Option Nat) (b : Bool) (d : DV) : AV.mapN h (sel b d) = sel b d := by cases b <;> simp [sel, AV.mapN]
@[go_sem] theorem sel_sub (n : Nat) (h : AV → AV) (b : Bool) (d : DV) : AV.sub n h (sel b d) = sel b d := by cases b <;> simp [sel, AV.sub]
def stB (a b : Bool) (x y : Blk) : Option Blk := bif a then none else some (bif b then x else y)
@[go_sem] theorem stB_t (b : Bool) (x y : Blk) : stB true b x y = none := rfl
@[go_sem] theorem stB_ft (x y : Blk) : stB false true x y = some x := rfl
@[go_sem] theorem stB_ff (x y : Blk) : stB false false x y = some y := rfl
def mostK (k : Kitchen) (M : List (List Int)) : Nat := lastD k M (fun d g => (dinAt k d g).count.hi) M.length
def leastK (k : Kitchen) (M : List (List Int)) : Nat := lastD k M (fun d g => (dinAt k d g).count.lo) M.length
theorem zf19 (k : Kitchen) (M : List (List Int)) (hs : KitSmall k) (hM : M.length < 2 ^ 30) (hMr : ∀ r ∈ M, r.length < 2 ^ 30) :
    Fn Tryz.prog 19 [.agg k.cells, .sl (listRows M)] (.tup (if openK k M = 0 then [.i (mostK k M), .i (leastK k M), .i 0] else [.i 0, .i 0, .i (openK k M)])) := by
  have h84 := zf41 k M hs hM hMr
  rw [Kitchen.cells] at h84
  by_cases h0 : openK k M = 0
  · rw [if_pos h0]
    have hg : KitGood k := by
      unfold openK at h0
      split at h0
      · rename_i hz; exact z179 (z144.1 hz)
      · contradiction
    have hsh : shapedB (menuB k) M k.days = true := by
      unfold openK at h0
      split at h0
      · split at h0
        · assumption
        · cases h0
      · contradiction
    rw [h0] at h84
    have h85 := zf42 k hg.batches
    change FnG Tryz.prog 42 [] [] (List.map AV.d [.agg k.cells]) _ _ at h85
    have hhi := (zf43 k hg M hsh _ _ (hi_ok hg) (fun d g hd hgl => zf44 k d g hd hgl)).boxNil
    have hlo := (zf43 k hg M hsh _ _ (lo_ok hg) (fun d g hd hgl => zf45 k d g hd hgl)).boxNil
    change FnG Tryz.prog 43 _ _ _ (.d (.i (mostK k M : Nat))) _ at hhi
    change FnG Tryz.prog 43 _ _ _ (.d (.i (leastK k M : Nat))) _ at hlo
    obtain ⟨hi, hhi'⟩ : ∃ n, n = mostK k M := ⟨_, rfl⟩
    obtain ⟨lo, hlo'⟩ : ∃ n, n = leastK k M := ⟨_, rfl⟩
    rw [← hhi'] at hhi ⊢
    rw [← hlo'] at hlo ⊢
    refine z21 29 Tryz.call19 Tryz.func19 rfl (by decide) fun J => ?_
    simp (maxSteps := 4000000) only [go_sem, St.start, Tryz.ntmps19, Tryz.results19, Kitchen.cells]
    repeat (first | refine z18 rfl ?_ | refine z17 rfl ?_ | refine z14 ?_ | refine z9 ?_ | refine z7 ?_ | (refine z5 fun K hK => ?_; simp (maxSteps := 4000000) only [go_sem]; (repeat (first | (refine ⟨_, .lent (hf := h84) (hd := rfl) (hr := rfl), ?_⟩; simp (maxSteps := 4000000) only [go_sem]) | (refine ⟨_, .given (hf := h84) (hd := rfl) (ha := rfl), ?_⟩; simp (maxSteps := 4000000) only [go_sem]))); refine hK _ ?_; clear hK K) | refine z13 ?_ | refine z15 ?_ | refine z10 ?_ | refine z8 ?_ | refine z6 rfl ?_ | refine z12 ?_ | refine z3 ?_ | refine z16 ?_ | refine z11 ?_ | refine z4 ?_)
    have hcl : k.cells.length = 4 := rfl
    have hct : k.cells.take 4 = k.cells := rfl
    refine z31 [2, 7] ?_
    simp (maxSteps := 4000000) only [go_sem]
    refine walkL_lose [2, 3, 8, 9, 10, 11, 12, 13, 14, 15, 16] ?_ ?_
    · simp (maxSteps := 4000000) only [go_sem]
      refine z19 [] ?_ ?_ rfl rfl <;> simp [lessT, lessM, lessB, AV.less]
    simp (maxSteps := 4000000) only [go_sem]
    refine z208 (by kernel_rfl) (by kernel_rfl) (fun m => ⟨[.d (.agg k.cells), .d (.sl (listRows M)), .undef, .undef, .d (bif m 12 then .i 0 else .i (hi : Nat)), .d (bif m 13 then .i 0 else .i (lo : Nat)), .d (.i 0), .d (.ptr k.cells 0), .undef, .undef, .undef, .undef, .undef, .undef, .undef, .undef, .undef,
        sel (m 0) (.agg k.cells), bif m 1 then .undef else .box 9 0, sel (m 2) (.sl (listRows M)), sel (m 3) (.agg k.cells), sel (m 4) (.bnd 44 [.agg k.cells]), sel (m 5) (.i (hi : Nat)), sel (m 6) (.agg k.cells), bif m 7 then .undef else .box 12 0, sel (m 8) (.sl (listRows M)), sel (m 9) (.agg k.cells), sel (m 10) (.bnd 45 [.agg k.cells]), sel (m 11) (.i (lo : Nat))],
      [none, none, none, none, none, none, none, none, none, stB (m 1) (m 5) (.box (lardRow k (.own 10) (.own 11) 0)) (.box []), stB (m 1) (m 5) (.arr 3 1 (intRows (amtK k))) (.arr 3 1 (intRows (left0 k))), stB (m 1) (m 5) (.arr 3 1 (natRows (ordK k))) (.arr 3 1 (natRows (ordK k))),
        stB (m 7) (m 11) (.box (lardRow k (.own 13) (.own 14) 0)) (.box []), stB (m 7) (m 11) (.arr 3 1 (intRows (amtK k))) (.arr 3 1 (intRows (left0 k))), stB (m 7) (m 11) (.arr 3 1 (natRows (ordK k))) (.arr 3 1 (natRows (ordK k))), none, none, none, none, none, none, none, none, none, none, none, none, none, none]⟩) ?_ ?_ ?_
    · simp (maxSteps := 4000000) only [go_sem]
      rfl
    · refine ⟨fun m hm hd hc => ?_, fun m hm hd hc => ?_, fun m hm hd hc => ?_, fun m hm hd hc => ?_, fun m hm hd hc => ?_, fun m hm hd hc => ?_, fun m hm hd hc => ?_, fun m hm hd hc => ?_, fun m hm hd hc => ?_, fun m hm hd hc => ?_, fun m hm hd hc => ?_, fun m hm hd hc => ?_, fun m hm hd hc => ?_, fun m hm hd hc => ?_, fun m hm hd hc => ?_, trivial⟩
      · simp only [closedM, depsM, Region.binds, true_and, and_true, Nat.zero_add, Nat.reduceAdd, reduceCtorEq, forall_const] at hc hd
        cases h1 : m 1 <;> cases h5 : m 5 <;> cases h7 : m 7 <;> cases h11 : m 11 <;> simp [h1, h5, h7, h11, hm] at hc hd
        all_goals
          refine ⟨rfl, rfl, ?_⟩
          simp (maxSteps := 4000000) only [go_sem, hm, hd, h1, h5, h7, h11, hcl, hct]
      · simp only [closedM, depsM, Region.binds, true_and, and_true, Nat.zero_add, Nat.reduceAdd, reduceCtorEq, forall_const] at hc hd
        have h1 := hm
        cases h5 : m 5 <;> cases h7 : m 7 <;> cases h11 : m 11 <;> simp [h1, h5, h7, h11, hm] at hc hd
        all_goals
          refine ⟨rfl, rfl, ?_⟩
          simp (maxSteps := 4000000) only [go_sem, hm, hd, h1, h5, h7, h11, hcl, hct]
        refine ⟨_, .made (news := [9, 10, 11]) (hf := h85) (hd := rfl) (hn := by decide) (hl := rfl) (hnew := rfl) (hx := rfl), ?_⟩
        simp (maxSteps := 4000000) only [go_sem, List.map_cons, List.map_nil, lardRow]
      · simp only [closedM, depsM, Region.binds, true_and, and_true, Nat.zero_add, Nat.reduceAdd, reduceCtorEq, forall_const] at hc hd
        cases h1 : m 1 <;> cases h5 : m 5 <;> cases h7 : m 7 <;> cases h11 : m 11 <;> simp [h1, h5, h7, h11, hm] at hc hd
        all_goals
          refine ⟨rfl, rfl, ?_⟩
          simp (maxSteps := 4000000) only [go_sem, hm, hd, h1, h5, h7, h11, hcl, hct]
      · simp only [closedM, depsM, Region.binds, true_and, and_true, Nat.zero_add, Nat.reduceAdd, reduceCtorEq, forall_const] at hc hd
        cases h1 : m 1 <;> cases h5 : m 5 <;> cases h7 : m 7 <;> cases h11 : m 11 <;> simp [h1, h5, h7, h11, hm] at hc hd
        all_goals
          refine ⟨rfl, rfl, ?_⟩
          simp (maxSteps := 4000000) only [go_sem, hm, hd, h1, h5, h7, h11, hcl, hct]
      · simp only [closedM, depsM, Region.binds, true_and, and_true, Nat.zero_add, Nat.reduceAdd, reduceCtorEq, forall_const] at hc hd
        cases h1 : m 1 <;> cases h5 : m 5 <;> cases h7 : m 7 <;> cases h11 : m 11 <;> simp [h1, h5, h7, h11, hm] at hc hd
        all_goals
          refine ⟨rfl, rfl, ?_⟩
          simp (maxSteps := 4000000) only [go_sem, hm, hd, h1, h5, h7, h11, hcl, hct]
      · simp only [closedM, depsM, Region.binds, true_and, and_true, Nat.zero_add, Nat.reduceAdd, reduceCtorEq, forall_const] at hc hd
        have h5 := hm
        cases h1 : m 1 <;> cases h7 : m 7 <;> cases h11 : m 11 <;> simp [h1, h5, h7, h11, hm] at hc hd
        all_goals
          refine ⟨rfl, rfl, ?_⟩
          simp (maxSteps := 4000000) only [go_sem, hm, hd, h1, h5, h7, h11, hcl, hct]
        simp (maxSteps := 4000000) only [go_sem, lardRow]
        refine ⟨_, .own (ns := [9, 10, 11]) (news := []) (bads := [10, 11]) (rd := []) (hf := hhi) (hnd := by decide) (hl0 := rfl) (hl1 := rfl) (hm := by repeat (first | exact trivial | refine And.intro ?_ ?_ | rfl)) (hnew := rfl) (hla := rfl) (ha := z47 (by repeat (first | exact trivial | refine And.intro ?_ ?_ | exact z49 rfl | exact z42 rfl rfl))) (hrd := rfl) (hsh := z43 _) (hb := rfl) (hfl := .inl rfl), ?_⟩
        simp (maxSteps := 4000000) only [go_sem, List.map_cons, List.map_nil, lardRow]
      · simp only [closedM, depsM, Region.binds, true_and, and_true, Nat.zero_add, Nat.reduceAdd, reduceCtorEq, forall_const] at hc hd
        cases h1 : m 1 <;> cases h5 : m 5 <;> cases h7 : m 7 <;> cases h11 : m 11 <;> simp [h1, h5, h7, h11, hm] at hc hd
        all_goals
          refine ⟨rfl, rfl, ?_⟩
          simp (maxSteps := 4000000) only [go_sem, hm, hd, h1, h5, h7, h11, hcl, hct]
      · simp only [closedM, depsM, Region.binds, true_and, and_true, Nat.zero_add, Nat.reduceAdd, reduceCtorEq, forall_const] at hc hd
        have h7 := hm
        cases h1 : m 1 <;> cases h5 : m 5 <;> cases h11 : m 11 <;> simp [h1, h5, h7, h11, hm] at hc hd
        all_goals
          refine ⟨rfl, rfl, ?_⟩
          simp (maxSteps := 4000000) only [go_sem, hm, hd, h1, h5, h7, h11, hcl, hct]
        refine ⟨_, .made (news := [12, 13, 14]) (hf := h85) (hd := rfl) (hn := by decide) (hl := rfl) (hnew := rfl) (hx := rfl), ?_⟩
        simp (maxSteps := 4000000) only [go_sem, List.map_cons, List.map_nil, lardRow]
      · simp only [closedM, depsM, Region.binds, true_and, and_true, Nat.zero_add, Nat.reduceAdd, reduceCtorEq, forall_const] at hc hd
        cases h1 : m 1 <;> cases h5 : m 5 <;> cases h7 : m 7 <;> cases h11 : m 11 <;> simp [h1, h5, h7, h11, hm] at hc hd
        all_goals
          refine ⟨rfl, rfl, ?_⟩
          simp (maxSteps := 4000000) only [go_sem, hm, hd, h1, h5, h7, h11, hcl, hct]
      · simp only [closedM, depsM, Region.binds, true_and, and_true, Nat.zero_add, Nat.reduceAdd, reduceCtorEq, forall_const] at hc hd
        cases h1 : m 1 <;> cases h5 : m 5 <;> cases h7 : m 7 <;> cases h11 : m 11 <;> simp [h1, h5, h7, h11, hm] at hc hd
        all_goals
          refine ⟨rfl, rfl, ?_⟩
          simp (maxSteps := 4000000) only [go_sem, hm, hd, h1, h5, h7, h11, hcl, hct]
      · simp only [closedM, depsM, Region.binds, true_and, and_true, Nat.zero_add, Nat.reduceAdd, reduceCtorEq, forall_const] at hc hd
        cases h1 : m 1 <;> cases h5 : m 5 <;> cases h7 : m 7 <;> cases h11 : m 11 <;> simp [h1, h5, h7, h11, hm] at hc hd
        all_goals
          refine ⟨rfl, rfl, ?_⟩
          simp (maxSteps := 4000000) only [go_sem, hm, hd, h1, h5, h7, h11, hcl, hct]
      · simp only [closedM, depsM, Region.binds, true_and, and_true, Nat.zero_add, Nat.reduceAdd, reduceCtorEq, forall_const] at hc hd
        have h11 := hm
        cases h1 : m 1 <;> cases h5 : m 5 <;> cases h7 : m 7 <;> simp [h1, h5, h7, h11, hm] at hc hd
        all_goals
          refine ⟨rfl, rfl, ?_⟩
          simp (maxSteps := 4000000) only [go_sem, hm, hd, h1, h5, h7, h11, hcl, hct]
        simp (maxSteps := 4000000) only [go_sem, lardRow]
        refine ⟨_, .own (ns := [12, 13, 14]) (news := []) (bads := [13, 14]) (rd := []) (hf := hlo) (hnd := by decide) (hl0 := rfl) (hl1 := rfl) (hm := by repeat (first | exact trivial | refine And.intro ?_ ?_ | rfl)) (hnew := rfl) (hla := rfl) (ha := z47 (by repeat (first | exact trivial | refine And.intro ?_ ?_ | exact z49 rfl | exact z42 rfl rfl))) (hrd := rfl) (hsh := z43 _) (hb := rfl) (hfl := .inl rfl), ?_⟩
        simp (maxSteps := 4000000) only [go_sem, List.map_cons, List.map_nil, lardRow]
      · simp only [closedM, depsM, Region.binds, true_and, and_true, Nat.zero_add, Nat.reduceAdd, reduceCtorEq, forall_const] at hc hd
        cases h1 : m 1 <;> cases h5 : m 5 <;> cases h7 : m 7 <;> cases h11 : m 11 <;> simp [h1, h5, h7, h11, hm] at hc hd
        all_goals
          refine ⟨rfl, rfl, ?_⟩
          simp (maxSteps := 4000000) only [go_sem, hm, hd, h1, h5, h7, h11, hcl, hct]
      · simp only [closedM, depsM, Region.binds, true_and, and_true, Nat.zero_add, Nat.reduceAdd, reduceCtorEq, forall_const] at hc hd
        cases h1 : m 1 <;> cases h5 : m 5 <;> cases h7 : m 7 <;> cases h11 : m 11 <;> simp [h1, h5, h7, h11, hm] at hc hd
        all_goals
          refine ⟨rfl, rfl, ?_⟩
          simp (maxSteps := 4000000) only [go_sem, hm, hd, h1, h5, h7, h11, hcl, hct]
      · simp only [closedM, depsM, Region.binds, true_and, and_true, Nat.zero_add, Nat.reduceAdd, reduceCtorEq, forall_const] at hc hd
        cases h1 : m 1 <;> cases h5 : m 5 <;> cases h7 : m 7 <;> cases h11 : m 11 <;> simp [h1, h5, h7, h11, hm] at hc hd
        all_goals
          refine ⟨rfl, rfl, ?_⟩
          simp (maxSteps := 4000000) only [go_sem, hm, hd, h1, h5, h7, h11, hcl, hct]
    · simp (maxSteps := 4000000) only [go_sem]
      repeat (first | refine z14 ?_ | refine z9 ?_ | refine z7 ?_ | (refine z5 fun K hK => ?_; simp (maxSteps := 4000000) only [go_sem]; refine hK _ ?_; clear hK K) | refine z13 ?_ | refine z15 ?_ | refine z10 ?_ | refine z8 ?_ | refine z6 rfl ?_ | refine z12 ?_ | refine z3 ?_ | refine z16 ?_ | refine z11 ?_ | refine z4 ?_)
      simp (maxSteps := 4000000) only [go_sem]
  · rw [if_neg h0]
    have hz : (openK k M != 0) = true := by simpa using h0
    obtain ⟨e, he⟩ : ∃ e, e = openK k M := ⟨_, rfl⟩
    rw [← he] at h84 hz ⊢
    refine z21 29 Tryz.call19 Tryz.func19 rfl (by decide) fun J => ?_
    simp (maxSteps := 4000000) only [go_sem, St.start, Tryz.ntmps19, Tryz.results19, Kitchen.cells]
    repeat (first | refine z18 rfl ?_ | refine z17 rfl ?_ | refine z14 ?_ | refine z9 ?_ | refine z7 ?_ | (refine z5 fun K hK => ?_; simp (maxSteps := 4000000) only [go_sem, hz]; (repeat (first | (refine ⟨_, .lent (hf := h84) (hd := rfl) (hr := rfl), ?_⟩; simp (maxSteps := 4000000) only [go_sem, hz]) | (refine ⟨_, .given (hf := h84) (hd := rfl) (ha := rfl), ?_⟩; simp (maxSteps := 4000000) only [go_sem, hz]))); refine hK _ ?_; clear hK K) | refine z13 ?_ | refine z15 ?_ | refine z10 ?_ | refine z8 ?_ | refine z6 rfl ?_ | refine z12 ?_ | refine z3 ?_ | refine z16 ?_ | refine z11 ?_ | refine z4 ?_)
    simp (maxSteps := 4000000) only [go_sem]
end Go.Ab
namespace Go.Ab
open Go.RowKit Go.Proofs
set_option maxHeartbeats 16000000
set_option maxRecDepth 20000
attribute [local irreducible] WalkL Walk
def ordG (k : Kitchen) (o : List Nat) (needs : List Int) (a : List Int × List Int) : Nat → List Int × List Int
  | 0 => a
  | g + 1 => ((takeG k o g (ordG k o needs a g).1 (getI needs (g : Int))).1, (ordG k o needs a g).2.set g (getI (ordG k o needs a g).2 (g : Int) + (takeG k o g (ordG k o needs a g).1 (getI needs (g : Int))).2))
def hiC (k : Kitchen) (d g : Nat) : Int := (dinAt k d g).count.hi
def ordD (k : Kitchen) (M : List (List Int)) : Nat → List Int × List Int × Int
  | 0 => (amtK k, List.replicate k.allerg.length 0, 0)
  | d + 1 => ((ordG k (ordK k) (needD k M (hiC k) d) ((clrTo k (d : Int) (ordD k M d).1 (ordD k M d).2.2 k.batches.length).1, (ordD k M d).2.1) k.allerg.length).1,
      (ordG k (ordK k) (needD k M (hiC k) d) ((clrTo k (d : Int) (ordD k M d).1 (ordD k M d).2.2 k.batches.length).1, (ordD k M d).2.1) k.allerg.length).2,
      (clrTo k (d : Int) (ordD k M d).1 (ordD k M d).2.2 k.batches.length).2)
def orderK (k : Kitchen) (M : List (List Int)) : List Int := (ordD k M M.length).2.1
def BuyOk (n : Int) (l : List Int) : Prop := ∀ x ∈ l, 0 ≤ x ∧ x ≤ n
theorem z256 {k : Kitchen} {o : List Nat} {needs : List Int} {a : List Int × List Int} {B : Int} (h : AmtOk a.1) (hb : BuyOk B a.2) (hB : 0 ≤ B) (hn : ∀ x ∈ needs, 0 ≤ x ∧ x ≤ 2 ^ 40) (g : Nat) :
    AmtOk (ordG k o needs a g).1 ∧ (ordG k o needs a g).1.length = a.1.length ∧ BuyOk (B + 2 ^ 40) (ordG k o needs a g).2 ∧ (ordG k o needs a g).2.length = a.2.length ∧ ∀ i : Nat, g ≤ i → getI (ordG k o needs a g).2 (i : Int) = getI a.2 (i : Int) := by
  induction g with
  | zero => exact ⟨h, rfl, fun x hx => by have := hb x hx; omega, rfl, fun _ _ => rfl⟩
  | succ g ih =>
    obtain ⟨h1, h2, h3, h4, h5⟩ := ih
    have hng : 0 ≤ getI needs (g : Int) ∧ getI needs (g : Int) ≤ 2 ^ 40 := z124 hn (by decide) _
    have ht := z223 (k := k) (good := g) o (a := ((ordG k o needs a g).1, getI needs (g : Int))) h1 hng.1
    change AmtOk (takeG k o g (ordG k o needs a g).1 (getI needs (g : Int))).1 ∧ (takeG k o g (ordG k o needs a g).1 (getI needs (g : Int))).1.length = (ordG k o needs a g).1.length ∧ 0 ≤ (takeG k o g (ordG k o needs a g).1 (getI needs (g : Int))).2 ∧ (takeG k o g (ordG k o needs a g).1 (getI needs (g : Int))).2 ≤ getI needs (g : Int) at ht
    obtain ⟨t1, t2, t3, t4⟩ := ht
    have hbg : 0 ≤ getI a.2 (g : Int) ∧ getI a.2 (g : Int) ≤ B := z124 hb ⟨Int.le_refl 0, hB⟩ _
    refine ⟨t1, by rw [ordG]; dsimp only; rw [t2, h2], ?_, by rw [ordG]; simp [h4], fun i hi => ?_⟩
    · intro x hx
      rw [ordG] at hx
      rcases List.mem_or_eq_of_mem_set hx with hx | hx
      · exact h3 x hx
      · rw [hx, h5 g (Nat.le_refl _)]
        omega
    · rw [ordG]
      dsimp only
      rw [getI, getI, List.getD, List.getD, Int.toNat_natCast, List.getElem?_set_ne (by omega)]
      have := h5 i (by omega)
      rw [getI, getI, List.getD, List.getD, Int.toNat_natCast] at this
      exact this
theorem z257 {k : Kitchen} (hg : KitGood k) {M : List (List Int)} (hM : shapedB (menuB k) M k.days = true) (d : Nat) (hd : d ≤ M.length) :
    AmtOk (ordD k M d).1 ∧ (ordD k M d).1.length = k.batches.length ∧ BuyOk (2 ^ 40 * d) (ordD k M d).2.1 ∧ (ordD k M d).2.1.length = k.allerg.length ∧ 0 ≤ (ordD k M d).2.2 ∧ (ordD k M d).2.2 ≤ 10000000 * d := by
  induction d with
  | zero => exact ⟨amtK_ok hg, by simp [ordD, amtK], fun x hx => by rw [ordD] at hx; have := List.eq_of_mem_replicate hx; omega, by simp [ordD], Int.le_refl 0, by simp [ordD]⟩
  | succ d ih =>
    obtain ⟨h1, h2, h3, h4, h5, h6⟩ := ih (by omega)
    obtain ⟨r, hr⟩ : ∃ r, M[d]? = some r := ⟨_, List.getElem?_eq_getElem (by omega)⟩
    obtain ⟨_, _, hdo⟩ := z280 hg hM (hi_ok hg) hr
    have hnd : needD k M (hiC k) d = needL k r (hiC k d) := by rw [needD, List.getD, hr]; rfl
    obtain ⟨c1, c2, c3⟩ := z80 (k := k) (day := (d : Int)) (w := (ordD k M d).2.2) h1 k.batches.length
    have c4 := z55 k (d : Int) (ordD k M d).1 (ordD k M d).2.2 k.batches.length
    have hb := hg.batches
    obtain ⟨o1, o2, o3, o4, _⟩ := z256 (k := k) (o := ordK k) (needs := needD k M (hiC k) d) (a := ((clrTo k (d : Int) (ordD k M d).1 (ordD k M d).2.2 k.batches.length).1, (ordD k M d).2.1)) (B := 2 ^ 40 * d) c1 h3 (by omega) (by rw [hnd]; exact z118 hg hdo) k.allerg.length
    refine ⟨o1, ?_, ?_, ?_, ?_, ?_⟩
    · rw [ordD]; dsimp only; rw [o2]; dsimp only; rw [c4, h2]
    · rw [ordD]; dsimp only
      have e : (2 : Int) ^ 40 * (d : Int) + 2 ^ 40 = 2 ^ 40 * ((d + 1 : Nat) : Int) := by push_cast; omega
      rw [← e]
      exact o3
    · rw [ordD]; dsimp only; rw [o4]; exact h4
    · rw [ordD]; dsimp only; omega
    · rw [ordD]; dsimp only; push_cast; omega
theorem zf48 (k : Kitchen) (day group : Nat) (hd : day < k.days.length) (hg : group < (k.days.getD day []).length) : Fn Tryz.prog 48 [.i (group : Int), .ptr k.cells 0, .ptr [.i (day : Int)] 0] (.i (hiC k day group)) := by
  have h := zf44 k day group hd hg
  unfold hiC
  rw [Kitchen.cells] at h ⊢
  refine z21 9 Tryz.call48 Tryz.func48 rfl (by decide) fun J => ?_
  simp (maxSteps := 4000000) only [go_sem, St.start, Tryz.ntmps48, Tryz.results48]
  repeat (first | refine z14 ?_ | refine z9 ?_ | refine z7 ?_ | (refine z5 fun K hK => ?_; simp (maxSteps := 4000000) only [go_sem]; (repeat (first | (refine ⟨_, .lent (hf := h) (hd := rfl) (hr := rfl), ?_⟩; simp (maxSteps := 4000000) only [go_sem]) | (refine ⟨_, .given (hf := h) (hd := rfl) (ha := rfl), ?_⟩; simp (maxSteps := 4000000) only [go_sem]))); refine hK _ ?_; clear hK K) | refine z13 ?_ | refine z15 ?_ | refine z10 ?_ | refine z8 ?_ | refine z6 rfl ?_ | refine z12 ?_ | refine z3 ?_ | refine z16 ?_ | refine z11 ?_ | refine z4 ?_)
  simp (maxSteps := 4000000) only [go_sem]
end Go.Ab
namespace Go.Ab
open Go.RowKit Go.Proofs
set_option maxHeartbeats 16000000
set_option maxRecDepth 20000
attribute [local irreducible] WalkL Walk
theorem open_zero {k : Kitchen} {M : List (List Int)} (h0 : openK k M = 0) : KitGood k ∧ shapedB (menuB k) M k.days = true := by
  unfold openK at h0
  split at h0
  · rename_i hz
    split at h0
    · exact ⟨z179 (z144.1 hz), by assumption⟩
    · cases h0
  · contradiction
theorem zf23 (k : Kitchen) (M : List (List Int)) (hs : KitSmall k) (hM : M.length < 2 ^ 30) (hMr : ∀ r ∈ M, r.length < 2 ^ 30) :
    Fn Tryz.prog 23 [.agg k.cells, .sl (listRows M)] (.tup (if openK k M = 0 then [.sl (intRows (orderK k M)), .i 0] else [.sl [], .i (openK k M)])) := by
  have h84 := zf41 k M hs hM hMr
  rw [Kitchen.cells] at h84
  by_cases h0 : openK k M = 0
  · rw [if_pos h0]
    obtain ⟨hg, hsh⟩ := open_zero h0
    rw [h0] at h84
    have h85 := zf42 k hg.batches
    change FnG Tryz.prog 42 [] [] (List.map AV.d [.agg k.cells]) _ _ at h85
    have hbl := hg.batches
    have hdl := hg.days
    have hMl := z74 hsh
    have hgo := hg.goods
    have hmk : (k.allerg.length : Int) ≤ 1099511627776 := by omega
    have hrep := z165 k.allerg.length
    have hcl : k.cells.length = 4 := rfl
    have hct : k.cells.take 4 = k.cells := rfl
    have hOK := fun d hd => z257 hg hsh d hd
    rw [orderK]
    obtain ⟨F, hF⟩ : ∃ F, F = ordD k M := ⟨_, rfl⟩
    have hF0 : F 0 = (amtK k, List.replicate k.allerg.length 0, 0) := by rw [hF]; rfl
    have hFs : ∀ d, F (d + 1) = ((ordG k (ordK k) (needD k M (hiC k) d) ((clrTo k (d : Int) (F d).1 (F d).2.2 k.batches.length).1, (F d).2.1) k.allerg.length).1,
      (ordG k (ordK k) (needD k M (hiC k) d) ((clrTo k (d : Int) (F d).1 (F d).2.2 k.batches.length).1, (F d).2.1) k.allerg.length).2,
      (clrTo k (d : Int) (F d).1 (F d).2.2 k.batches.length).2) := fun d => by rw [hF]; rfl
    rw [← hF] at hOK ⊢
    refine z21 102 Tryz.call23 Tryz.func23 rfl (by decide) fun J => ?_
    simp (maxSteps := 4000000) only [go_sem, St.start, Tryz.ntmps23, Tryz.results23, Kitchen.cells]
    repeat (first | refine z18 rfl ?_ | refine z17 rfl ?_ | refine z14 ?_ | refine z9 ?_ | refine z7 ?_ | (refine z5 fun K hK => ?_; simp (maxSteps := 4000000) only [go_sem]; (repeat (first | (refine ⟨_, .lent (hf := h84) (hd := rfl) (hr := rfl), ?_⟩; simp (maxSteps := 4000000) only [go_sem]) | (refine ⟨_, .given (hf := h84) (hd := rfl) (ha := rfl), ?_⟩; simp (maxSteps := 4000000) only [go_sem]))); refine hK _ ?_; clear hK K) | refine z13 ?_ | refine z15 ?_ | refine z10 ?_ | refine z8 ?_ | refine z6 rfl ?_ | refine z12 ?_ | refine z3 ?_ | refine z16 ?_ | refine z11 ?_ | refine z4 ?_)
    refine z31 [2, 6] ?_
    simp (maxSteps := 4000000) only [go_sem]
    refine z5 fun K hK => ?_
    simp (maxSteps := 4000000) only [go_sem, hmk, hrep]
    refine hK _ ?_
    clear hK K
    repeat (first | refine z14 ?_ | refine z9 ?_ | refine z7 ?_ | refine z13 ?_ | refine z3 ?_ | refine z4 ?_)
    refine z5 fun K hK => ?_
    simp (maxSteps := 4000000) only [go_sem, hcl, hct]
    refine ⟨_, .made (news := [0, 1, 3]) (hf := h85) (hd := rfl) (hn := by decide) (hl := rfl) (hnew := rfl) (hx := rfl), ?_⟩
    simp (maxSteps := 4000000) only [go_sem, List.map_cons, List.map_nil, lardRow]
    refine hK _ ?_
    clear hK K
    repeat (first | refine z14 ?_ | refine z9 ?_ | refine z7 ?_ | (refine z5 fun K hK => ?_; simp (maxSteps := 4000000) only [go_sem, z39]; refine hK _ ?_; clear hK K) | refine z13 ?_ | refine z15 ?_ | refine z10 ?_ | refine z8 ?_ | refine z6 rfl ?_ | refine z12 ?_ | refine z3 ?_ | refine z16 ?_ | refine z11 ?_ | refine z4 ?_)
    refine z22 (fun (d : Nat) => [(34, .d (.i (d : Int)))]) (fun d => [(0, some (.box (lardRow k (.own 1) (.own 3) (F d).2.2))), (1, some (.arr 3 1 (intRows (F d).1))), (29, some (.arr 3 1 (intRows (F d).2.1)))]) (fun d => d ≤ M.length) (fun d => M.length - d) 0 ?_ (Nat.zero_le _) ?_
    · rw [hF0]
      simp (maxSteps := 4000000) only [go_sem, lardRow]
      refine z19 [] ?_ ?_ rfl rfl <;> simp [lessT, lessM, lessB, AV.less]
      all_goals first | done | rfl | exact ⟨rfl, rfl⟩ | trace_state
    · intro d hd
      obtain ⟨a1, a2, a3, a4, a5, a6⟩ := hOK d hd
      have hnx := hFs d
      obtain ⟨⟨l, b, w⟩, hFd⟩ : ∃ x, F d = x := ⟨_, rfl⟩
      rw [hFd] at a1 a2 a3 a4 a5 a6 hnx ⊢
      dsimp only at a1 a2 a3 a4 a5 a6 hnx ⊢
      have hw2 : w ≤ 2 ^ 40 := by omega
      simp (maxSteps := 4000000) only [go_sem, lardRow]
      repeat (first | refine z14 ?_ | refine z9 ?_ | refine z7 ?_ | (refine z5 fun K hK => ?_; simp (maxSteps := 4000000) only [go_sem]; refine hK _ ?_; clear hK K) | refine z13 ?_ | refine z15 ?_ | refine z10 ?_ | refine z8 ?_ | refine z6 rfl ?_ | refine z12 ?_ | refine z3 ?_ | refine z16 ?_ | refine z11 ?_ | refine z4 ?_)
      refine z20 rfl (fun hb => ?_) (fun hb => ?_)
      · have hlt : d < M.length := by simpa using hb
        have hw : IntKind.i64.wrap ((d : Int) + 1) = ((d + 1 : Nat) : Int) := by rw [z23 (by omega)]; simp
        obtain ⟨r, hr⟩ : ∃ r, M[d]? = some r := ⟨_, List.getElem?_eq_getElem hlt⟩
        obtain ⟨hdd, hrl, hday⟩ := z280 hg hsh (hi_ok hg) hr
        change DayOk k r (hiC k d) at hday
        have g1 := z62 hr
        have hni : ¬ ((d : Int) < 0) := by omega
        have hnd : needD k M (hiC k) d = needL k r (hiC k d) := by rw [needD, List.getD, hr]; rfl
        rw [hnd] at hnx
        have h86 := zf46 k hbl (d : Int) l (ordK k) w a2 a1 ⟨a5, hw2⟩
        obtain ⟨c1, c2, c3⟩ := z80 (k := k) (day := (d : Int)) (w := w) a1 k.batches.length
        have c4 := z55 k (d : Int) l w k.batches.length
        obtain ⟨⟨C, v⟩, hC⟩ : ∃ a, a = clrTo k (d : Int) l w k.batches.length := ⟨_, rfl⟩
        rw [← hC] at h86 c1 c2 c3 c4 hnx
        dsimp only at c1 c2 c3 c4 hnx
        have h87 := (zf47 k hg r (hiC k d) 48 [.ptr k.cells 0, .ptr [.i (d : Int)] 0] hday (fun j hj => zf48 k d j hdd (by omega))).deep
        simp only [lardRow] at h86
        have hNo := z118 hg hday
        have hNl := z98 k r (hiC k d)
        obtain ⟨N, hN⟩ : ∃ N, N = needL k r (hiC k d) := ⟨_, rfl⟩
        rw [← hN] at h87 hnx hNo hNl
        repeat (first | refine z14 ?_ | refine z9 ?_ | refine z7 ?_ | refine z13 ?_ | refine z3 ?_ | refine z4 ?_)
        refine z5 fun K hK => ?_
        simp (maxSteps := 4000000) only [go_sem, g1, hni]
        refine hK _ ?_
        clear hK K
        refine z31 [10] ?_
        simp (maxSteps := 4000000) only [go_sem]
        repeat (first | refine z14 ?_ | refine z9 ?_ | refine z7 ?_ | refine z13 ?_ | refine z3 ?_ | refine z4 ?_)
        refine z5 fun K hK => ?_
        simp (maxSteps := 4000000) only [go_sem]
        refine ⟨_, .own (ns := [0, 1, 3]) (news := []) (bads := [1, 3]) (rd := []) (hf := h86) (hnd := by decide) (hl0 := rfl) (hl1 := rfl) (hm := by repeat (first | exact trivial | refine And.intro ?_ ?_ | rfl)) (hnew := rfl) (hla := rfl) (ha := z47 (by repeat (first | exact trivial | refine And.intro ?_ ?_ | exact z49 rfl | exact z42 rfl rfl))) (hrd := rfl) (hsh := z43 _) (hb := rfl) (hfl := .inl rfl), ?_⟩
        simp (maxSteps := 4000000) only [go_sem, List.map_cons, List.map_nil]
        refine hK _ ?_
        clear hK K
        repeat (first | refine z14 ?_ | refine z9 ?_ | refine z7 ?_ | refine z13 ?_ | refine z3 ?_ | refine z4 ?_)
        refine z5 fun K hK => ?_
        simp (maxSteps := 4000000) only [go_sem, hcl, hct]
        refine ⟨_, .given (hf := h87) (hd := rfl) (ha := rfl), ?_⟩
        simp (maxSteps := 4000000) only [go_sem, z271, hNl]
        refine hK _ ?_
        clear hK K
        repeat (first | refine z14 ?_ | refine z9 ?_ | refine z7 ?_ | (refine z5 fun K hK => ?_; simp (maxSteps := 4000000) only [go_sem]; refine hK _ ?_; clear hK K) | refine z13 ?_ | refine z15 ?_ | refine z10 ?_ | refine z8 ?_ | refine z6 rfl ?_ | refine z12 ?_ | refine z3 ?_ | refine z16 ?_ | refine z11 ?_ | refine z4 ?_)
        obtain ⟨H, hH⟩ : ∃ H, H = ordG k (ordK k) N (C, b) := ⟨_, rfl⟩
        have hH0 : H 0 = (C, b) := by rw [hH]; rfl
        have hHs : ∀ g, H (g + 1) = ((takeG k (ordK k) g (H g).1 (getI N (g : Int))).1, (H g).2.set g (getI (H g).2 (g : Int) + (takeG k (ordK k) g (H g).1 (getI N (g : Int))).2)) := fun g => by rw [hH]; rfl
        have hHo := fun g => z256 (k := k) (o := ordK k) (needs := N) (a := (C, b)) (B := 2 ^ 40 * d) c1 a3 (by omega) hNo g
        rw [← hH] at hHo hnx
        dsimp only at hHo
        have hol := z224 k
        have hom : ∀ x ∈ ordK k, x < k.batches.length := fun x hx => z176 hx
        obtain ⟨o, ho⟩ : ∃ o, o = ordK k := ⟨_, rfl⟩
        rw [← ho] at hHs hol hom
        refine z22 (fun (g : Nat) => [(47, .d (.i (g : Int)))]) (fun g => [(1, some (.arr 3 1 (intRows (H g).1))), (29, some (.arr 3 1 (intRows (H g).2)))]) (fun g => g ≤ k.allerg.length) (fun g => k.allerg.length - g) 0 ?_ (Nat.zero_le _) ?_
        · rw [hH0]
          simp (maxSteps := 4000000) only [go_sem]
          refine z19 [] ?_ ?_ rfl rfl <;> simp [lessT, lessM, lessB, AV.less]
          all_goals first | done | rfl | trace_state
        · intro g hg2
          obtain ⟨b1, b2, b3, b4, b5⟩ := hHo g
          have hnx2 := hHs g
          obtain ⟨⟨cur, B⟩, hHg⟩ : ∃ x, H g = x := ⟨_, rfl⟩
          rw [hHg] at b1 b2 b3 b4 b5 hnx2 ⊢
          dsimp only at b1 b2 b3 b4 b5 hnx2 ⊢
          simp (maxSteps := 4000000) only [go_sem]
          repeat (first | refine z14 ?_ | refine z9 ?_ | refine z7 ?_ | (refine z5 fun K hK => ?_; simp (maxSteps := 4000000) only [go_sem]; refine hK _ ?_; clear hK K) | refine z13 ?_ | refine z15 ?_ | refine z10 ?_ | refine z8 ?_ | refine z6 rfl ?_ | refine z12 ?_ | refine z3 ?_ | refine z16 ?_ | refine z11 ?_ | refine z4 ?_)
          refine z20 rfl (fun hb => ?_) (fun hb => ?_)
          · have hltg : g < k.allerg.length := by simpa using hb
            have hwg : IntKind.i64.wrap ((g : Int) + 1) = ((g + 1 : Nat) : Int) := by rw [z23 (by omega)]; simp
            have gn := z33 (l := N) (i := g) (by omega)
            have hnr : 0 ≤ getI N (g : Int) ∧ getI N (g : Int) ≤ 2 ^ 40 := z124 hNo (by decide) _
            obtain ⟨n, hn⟩ : ∃ n, n = getI N (g : Int) := ⟨_, rfl⟩
            rw [← hn] at gn hnx2 hnr
            have hng : ¬ ((g : Int) < 0) := by omega
            have hlN : g < N.length := by omega
            repeat (first | refine z14 ?_ | refine z9 ?_ | refine z7 ?_ | (refine z5 fun K hK => ?_; simp (maxSteps := 4000000) only [go_sem, gn, hng, hlN]; refine hK _ ?_; clear hK K) | refine z13 ?_ | refine z15 ?_ | refine z10 ?_ | refine z8 ?_ | refine z6 rfl ?_ | refine z12 ?_ | refine z3 ?_ | refine z16 ?_ | refine z11 ?_ | refine z4 ?_)
            rw [← ho]
            refine z22 (fun (q : Nat × List Int × Int) => [(57, .d (.i (q.1 : Int))), (13, .d (.i q.2.2))]) (fun q => [(1, some (.arr 3 1 (intRows q.2.1)))]) (fun q => q.1 ≤ o.length ∧ (q.2.1, q.2.2) = (o.take q.1).foldl (takeStep k g) (cur, n) ∧ AmtOk q.2.1 ∧ q.2.1.length = cur.length ∧ 0 ≤ q.2.2 ∧ q.2.2 ≤ 2 ^ 40) (fun q => o.length - q.1) (0, cur, n) ?_ ⟨Nat.zero_le _, rfl, b1, rfl, hnr.1, hnr.2⟩ ?_
            · simp (maxSteps := 4000000) only [go_sem]
              refine z19 [] ?_ ?_ rfl rfl <;> simp [lessT, lessM, lessB, AV.less]
              all_goals first | done | rfl | trace_state
            · rintro ⟨j, A, m⟩ ⟨hj, hfold, hAo, hAl, hm0, hm1⟩
              dsimp only at hj hfold hAo hAl hm0 hm1
              simp (maxSteps := 4000000) only [go_sem]
              repeat (first | refine z14 ?_ | refine z9 ?_ | refine z7 ?_ | (refine z5 fun K hK => ?_; simp (maxSteps := 4000000) only [go_sem]; refine hK _ ?_; clear hK K) | refine z13 ?_ | refine z15 ?_ | refine z10 ?_ | refine z8 ?_ | refine z6 rfl ?_ | refine z12 ?_ | refine z3 ?_ | refine z16 ?_ | refine z11 ?_ | refine z4 ?_)
              refine z20 rfl (fun hb => ?_) (fun hb => ?_)
              · have hltj : j < o.length := by simpa using hb
                have hwj : IntKind.i64.wrap ((j : Int) + 1) = ((j + 1 : Nat) : Int) := by rw [z23 (by omega)]; simp
                have hnj : ¬ ((j : Int) < 0) := by omega
                obtain ⟨x, hx⟩ : ∃ x, o[j]? = some x := ⟨_, List.getElem?_eq_getElem hltj⟩
                have gx := z92 hltj
                rw [List.getD, hx, Option.getD_some] at gx
                have hxb := hom x (List.mem_of_getElem? hx)
                have gb := z285 hxb
                rw [Batch.row] at gb
                have hnx3 : ¬ ((x : Int) < 0) := by omega
                have hxA : x < A.length := by omega
                have gA := z33 hxA
                have hgA := hAo.get (x : Int)
                have hst : (o.take (j + 1)).foldl (takeStep k g) (cur, n) = takeStep k g (A, m) x := by rw [z41 _ _ _ _ _ hx, ← hfold]
                have hso := z115 (k := k) (good := g) (i := x) (a := (A, m)) hAo hm0
                by_cases hq : (batAt k x).good = (g : Int)
                · have e : ((batAt k x).good == (g : Int)) = true := by simp [hq]
                  have e0 : takeStep k g (A, m) x = (A.set x (getI A (x : Int) - min m (getI A (x : Int))), m - min m (getI A (x : Int))) := by rw [takeStep, if_pos hq]
                  rw [e0] at hst hso
                  dsimp only at hso
                  have e1 : IntKind.i64.wrap (getI A (x : Int) - min m (getI A (x : Int))) = getI A (x : Int) - min m (getI A (x : Int)) := z23 (by omega)
                  have e2 : IntKind.i64.wrap (m - min m (getI A (x : Int))) = m - min m (getI A (x : Int)) := z23 (by omega)
                  have su := z54 A x (getI A (x : Int) - min m (getI A (x : Int)))
                  obtain ⟨v2, hv⟩ : ∃ v2, v2 = getI A (x : Int) := ⟨_, rfl⟩
                  rw [← hv] at gA e1 e2 su hst hso hgA
                  obtain ⟨t, ht⟩ : ∃ t, t = min m v2 := ⟨_, rfl⟩
                  rw [← ht] at e1 e2 su hst hso
                  have ht' : min m v2 = t := ht.symm
                  repeat (first | refine z18 rfl ?_ | refine z17 rfl ?_ | refine z14 ?_ | refine z9 ?_ | refine z7 ?_ | (refine z5 fun K hK => ?_; simp (maxSteps := 4000000) only [go_sem, gx, hnj, hltj, gb, hnx3, e]; refine hK _ ?_; clear hK K) | refine z13 ?_ | refine z15 ?_ | refine z10 ?_ | refine z8 ?_ | refine z6 rfl ?_ | refine z12 ?_ | refine z3 ?_ | refine z16 ?_ | refine z11 ?_ | refine z4 ?_)
                  repeat (first | refine z14 ?_ | refine z9 ?_ | refine z7 ?_ | (refine z5 fun K hK => ?_; simp (maxSteps := 4000000) only [go_sem, gx, hnj, hltj, gb, hnx3, e, gA, hxA, ht', e1, e2, su, hwj]; refine hK _ ?_; clear hK K) | refine z13 ?_ | refine z15 ?_ | refine z10 ?_ | refine z8 ?_ | refine z6 rfl ?_ | refine z12 ?_ | refine z3 ?_ | refine z16 ?_ | refine z11 ?_ | refine z4 ?_)
                  refine ⟨rfl, (j + 1, A.set x (v2 - t), m - t), ?_, ⟨hltj, hst.symm, hso.1, by rw [hso.2.1]; exact hAl, hso.2.2.1, by dsimp only; omega⟩, by dsimp only; omega⟩
                  refine z19 [] ?_ ?_ rfl rfl <;> simp [lessT, lessM, lessB, AV.less]
                  all_goals first | done | rfl | trace_state
                · have e : ((batAt k x).good == (g : Int)) = false := by simpa using hq
                  have e0 : takeStep k g (A, m) x = (A, m) := by rw [takeStep, if_neg hq]
                  rw [e0] at hst
                  repeat (first | refine z18 rfl ?_ | refine z17 rfl ?_ | refine z14 ?_ | refine z9 ?_ | refine z7 ?_ | (refine z5 fun K hK => ?_; simp (maxSteps := 4000000) only [go_sem, gx, hnj, hltj, gb, hnx3, e, hwj]; refine hK _ ?_; clear hK K) | refine z13 ?_ | refine z15 ?_ | refine z10 ?_ | refine z8 ?_ | refine z6 rfl ?_ | refine z12 ?_ | refine z3 ?_ | refine z16 ?_ | refine z11 ?_ | refine z4 ?_)
                  refine ⟨rfl, (j + 1, A, m), ?_, ⟨hltj, hst.symm, hAo, hAl, hm0, hm1⟩, by dsimp only; omega⟩
                  refine z19 [] ?_ ?_ rfl rfl <;> simp [lessT, lessM, lessB, AV.less]
                  all_goals first | done | rfl | trace_state
              · have he : j = o.length := by (have : ¬ j < o.length := by simpa using hb); omega
                subst he
                rw [List.take_length] at hfold
                have hGt : takeG k o g cur n = (A, m) := hfold.symm
                rw [hGt] at hnx2
                dsimp only at hnx2
                have hgB : g < B.length := by omega
                have gB := z33 hgB
                have hBr : 0 ≤ getI B (g : Int) ∧ getI B (g : Int) ≤ 2 ^ 40 * d + 2 ^ 40 := z124 b3 (by omega) _
                have eB : IntKind.i64.wrap (getI B (g : Int) + m) = getI B (g : Int) + m := z23 (by omega)
                have suB := z54 B g (getI B (g : Int) + m)
                repeat (first | refine z14 ?_ | refine z9 ?_ | refine z7 ?_ | (refine z5 fun K hK => ?_; simp (maxSteps := 4000000) only [go_sem, gB, hgB, hng, eB, suB, hwg]; refine hK _ ?_; clear hK K) | refine z13 ?_ | refine z15 ?_ | refine z10 ?_ | refine z8 ?_ | refine z6 rfl ?_ | refine z12 ?_ | refine z3 ?_ | refine z16 ?_ | refine z11 ?_ | refine z4 ?_)
                refine ⟨rfl, g + 1, ?_, hltg, by omega⟩
                rw [hnx2]
                refine z19 [] ?_ ?_ rfl rfl <;> simp [lessT, lessM, lessB, AV.less]
                all_goals first | done | rfl | trace_state
          · have he : g = k.allerg.length := by (have : ¬ g < k.allerg.length := by simpa using hb); omega
            subst he
            rw [hHg] at hnx
            dsimp only at hnx
            repeat (first | refine z14 ?_ | refine z9 ?_ | refine z7 ?_ | (refine z5 fun K hK => ?_; simp (maxSteps := 4000000) only [go_sem, hw]; refine hK _ ?_; clear hK K) | refine z13 ?_ | refine z15 ?_ | refine z10 ?_ | refine z8 ?_ | refine z6 rfl ?_ | refine z12 ?_ | refine z3 ?_ | refine z16 ?_ | refine z11 ?_ | refine z4 ?_)
            refine ⟨rfl, d + 1, ?_, hlt, by omega⟩
            rw [hnx]
            simp (maxSteps := 4000000) only [go_sem, lardRow]
            refine z19 [] ?_ ?_ rfl rfl <;> simp [lessT, lessM, lessB, AV.less]
            all_goals first | done | rfl | exact ⟨rfl, rfl⟩ | trace_state
      · have he : d = M.length := by (have : ¬ d < M.length := by simpa using hb); omega
        subst he
        rw [hFd]
        repeat (first | refine z14 ?_ | refine z9 ?_ | refine z7 ?_ | (refine z5 fun K hK => ?_; simp (maxSteps := 4000000) only [go_sem]; refine hK _ ?_; clear hK K) | refine z13 ?_ | refine z15 ?_ | refine z10 ?_ | refine z8 ?_ | refine z6 rfl ?_ | refine z12 ?_ | refine z3 ?_ | refine z16 ?_ | refine z11 ?_ | refine z4 ?_)
        simp (maxSteps := 4000000) only [go_sem]
  · rw [if_neg h0]
    have hz : (openK k M != 0) = true := by simpa using h0
    obtain ⟨e, he⟩ : ∃ e, e = openK k M := ⟨_, rfl⟩
    rw [← he] at h84 hz ⊢
    refine z21 102 Tryz.call23 Tryz.func23 rfl (by decide) fun J => ?_
    simp (maxSteps := 4000000) only [go_sem, St.start, Tryz.ntmps23, Tryz.results23, Kitchen.cells]
    repeat (first | refine z18 rfl ?_ | refine z17 rfl ?_ | refine z14 ?_ | refine z9 ?_ | refine z7 ?_ | (refine z5 fun K hK => ?_; simp (maxSteps := 4000000) only [go_sem, hz]; (repeat (first | (refine ⟨_, .lent (hf := h84) (hd := rfl) (hr := rfl), ?_⟩; simp (maxSteps := 4000000) only [go_sem, hz]) | (refine ⟨_, .given (hf := h84) (hd := rfl) (ha := rfl), ?_⟩; simp (maxSteps := 4000000) only [go_sem, hz]))); refine hK _ ?_; clear hK K) | refine z13 ?_ | refine z15 ?_ | refine z10 ?_ | refine z8 ?_ | refine z6 rfl ?_ | refine z12 ?_ | refine z3 ?_ | refine z16 ?_ | refine z11 ?_ | refine z4 ?_)
    simp (maxSteps := 4000000) only [go_sem]
end Go.Ab
namespace Go.Ab
open Go.RowKit Go.Proofs
set_option maxHeartbeats 8000000
set_option maxRecDepth 20000
attribute [local irreducible] WalkL Walk
def daysP (h : Int) : Int := IntKind.i64.wrap ((IntKind.i64.wrap (h + 23)).tdiv 24)
def enoughP (k : Kitchen) (M : List (List Int)) (s : Supply) (c n : Int) : Int × Bool × Int :=
  if openK k M = 0 then (if (nextP s c n).2.2 = 0 then (daysP (nextP s c n).1, decide (daysP (nextP s c n).1 ≤ (mostK k M : Int)), 0) else (0, false, (nextP s c n).2.2)) else (0, false, openK k M)
theorem zf10 (k : Kitchen) (M : List (List Int)) (s : Supply) (c n : Int) (hs : KitSmall k) (hM : M.length < 2 ^ 30) (hMr : ∀ r ∈ M, r.length < 2 ^ 30) (hss : SuppSmall s) :
    Fn Tryz.prog 10 [.agg k.cells, .sl (listRows M), .agg s.cells, .i c, .i n] (.tup [.i (enoughP k M s c n).1, .bool (enoughP k M s c n).2.1, .i (enoughP k M s c n).2.2]) := by
  have h45 := zf19 k M hs hM hMr
  have h26 := zf18 s c n hss
  unfold enoughP
  obtain ⟨hi, hhi⟩ : ∃ x, x = mostK k M := ⟨_, rfl⟩
  obtain ⟨lo, hlo⟩ : ∃ x, x = leastK k M := ⟨_, rfl⟩
  obtain ⟨⟨a, b, e⟩, hP⟩ : ∃ x, nextP s c n = x := ⟨_, rfl⟩
  rw [hP] at h26 ⊢
  rw [← hhi, ← hlo] at h45
  rw [← hhi]
  rw [Kitchen.cells] at h45 ⊢
  rw [Supply.cells] at h26 ⊢
  dsimp only at h26 ⊢
  by_cases h0 : openK k M = 0
  · rw [if_pos h0] at h45 ⊢
    by_cases h1 : e = 0
    · rw [if_pos h1]
      subst h1
      refine z21 45 Tryz.call10 Tryz.func10 rfl (by decide) fun J => ?_
      simp (maxSteps := 4000000) only [go_sem, St.start, Tryz.ntmps10, Tryz.results10]
      repeat (first | refine z18 rfl ?_ | refine z17 rfl ?_ | refine z14 ?_ | refine z9 ?_ | refine z7 ?_ | (refine z5 fun K hK => ?_; simp (maxSteps := 4000000) only [go_sem]; (repeat (first | (refine ⟨_, .lent (hf := h45) (hd := rfl) (hr := rfl), ?_⟩; simp (maxSteps := 4000000) only [go_sem]) | (refine ⟨_, .lent (hf := h26) (hd := rfl) (hr := rfl), ?_⟩; simp (maxSteps := 4000000) only [go_sem]) | (refine ⟨_, .given (hf := h45) (hd := rfl) (ha := rfl), ?_⟩; simp (maxSteps := 4000000) only [go_sem]) | (refine ⟨_, .given (hf := h26) (hd := rfl) (ha := rfl), ?_⟩; simp (maxSteps := 4000000) only [go_sem]))); refine hK _ ?_; clear hK K) | refine z13 ?_ | refine z15 ?_ | refine z10 ?_ | refine z8 ?_ | refine z6 rfl ?_ | refine z12 ?_ | refine z3 ?_ | refine z16 ?_ | refine z11 ?_ | refine z4 ?_)
      simp (maxSteps := 4000000) only [go_sem, daysP]
      rfl
    · rw [if_neg h1]
      have hz : (e != 0) = true := by simpa using h1
      refine z21 45 Tryz.call10 Tryz.func10 rfl (by decide) fun J => ?_
      simp (maxSteps := 4000000) only [go_sem, St.start, Tryz.ntmps10, Tryz.results10]
      repeat (first | refine z18 rfl ?_ | refine z17 rfl ?_ | refine z14 ?_ | refine z9 ?_ | refine z7 ?_ | (refine z5 fun K hK => ?_; simp (maxSteps := 4000000) only [go_sem, hz]; (repeat (first | (refine ⟨_, .lent (hf := h45) (hd := rfl) (hr := rfl), ?_⟩; simp (maxSteps := 4000000) only [go_sem, hz]) | (refine ⟨_, .lent (hf := h26) (hd := rfl) (hr := rfl), ?_⟩; simp (maxSteps := 4000000) only [go_sem, hz]) | (refine ⟨_, .given (hf := h45) (hd := rfl) (ha := rfl), ?_⟩; simp (maxSteps := 4000000) only [go_sem, hz]) | (refine ⟨_, .given (hf := h26) (hd := rfl) (ha := rfl), ?_⟩; simp (maxSteps := 4000000) only [go_sem, hz]))); refine hK _ ?_; clear hK K) | refine z13 ?_ | refine z15 ?_ | refine z10 ?_ | refine z8 ?_ | refine z6 rfl ?_ | refine z12 ?_ | refine z3 ?_ | refine z16 ?_ | refine z11 ?_ | refine z4 ?_)
      simp (maxSteps := 4000000) only [go_sem]
  · rw [if_neg h0] at h45 ⊢
    have hz : (openK k M != 0) = true := by simpa using h0
    obtain ⟨e2, he2⟩ : ∃ e, e = openK k M := ⟨_, rfl⟩
    rw [← he2] at h45 hz ⊢
    refine z21 45 Tryz.call10 Tryz.func10 rfl (by decide) fun J => ?_
    simp (maxSteps := 4000000) only [go_sem, St.start, Tryz.ntmps10, Tryz.results10]
    repeat (first | refine z18 rfl ?_ | refine z17 rfl ?_ | refine z14 ?_ | refine z9 ?_ | refine z7 ?_ | (refine z5 fun K hK => ?_; simp (maxSteps := 4000000) only [go_sem, hz]; (repeat (first | (refine ⟨_, .lent (hf := h45) (hd := rfl) (hr := rfl), ?_⟩; simp (maxSteps := 4000000) only [go_sem, hz]) | (refine ⟨_, .lent (hf := h26) (hd := rfl) (hr := rfl), ?_⟩; simp (maxSteps := 4000000) only [go_sem, hz]) | (refine ⟨_, .given (hf := h45) (hd := rfl) (ha := rfl), ?_⟩; simp (maxSteps := 4000000) only [go_sem, hz]) | (refine ⟨_, .given (hf := h26) (hd := rfl) (ha := rfl), ?_⟩; simp (maxSteps := 4000000) only [go_sem, hz]))); refine hK _ ?_; clear hK K) | refine z13 ?_ | refine z15 ?_ | refine z10 ?_ | refine z8 ?_ | refine z6 rfl ?_ | refine z12 ?_ | refine z3 ?_ | refine z16 ?_ | refine z11 ?_ | refine z4 ?_)
    simp (maxSteps := 4000000) only [go_sem]
theorem zf56 (a b : Int) : Fn Tryz.prog 56 [.i a, .i b] (.agg [.i a, .i b]) := by
  refine z21 8 Tryz.call56 Tryz.func56 rfl (by decide) fun J => ?_
  simp (maxSteps := 4000000) only [go_sem, St.start, Tryz.ntmps56, Tryz.results56]
  repeat (first | refine z14 ?_ | refine z9 ?_ | refine z7 ?_ | (refine z5 fun K hK => ?_; simp (maxSteps := 4000000) only [go_sem]; refine hK _ ?_; clear hK K) | refine z13 ?_ | refine z15 ?_ | refine z10 ?_ | refine z8 ?_ | refine z6 rfl ?_ | refine z12 ?_ | refine z3 ?_ | refine z16 ?_ | refine z11 ?_ | refine z4 ?_)
  simp (maxSteps := 4000000) only [go_sem]
def exK : Kitchen := ⟨[1, 0], [⟨0, 1000, 1⟩, ⟨0, 500, 3⟩, ⟨1, 2000, 2⟩], [⟨[200, 0]⟩, ⟨[0, 300]⟩], List.replicate 3 [⟨0, ⟨2, 3⟩⟩, ⟨1, ⟨1, 1⟩⟩]⟩
def exM : List (List Int) := [[0, 1], [0, 1], [0, 1]]
theorem zf28 : Fn Tryz.prog 28 [] (.tup [.agg exK.cells, .sl (listRows exM)]) := by
  have h1 := zf56 2 3
  have h2 := zf56 1 1
  refine z21 27 Tryz.call28 Tryz.func28 rfl (by decide) fun J => ?_
  simp (maxSteps := 4000000) only [go_sem, St.start, Tryz.ntmps28, Tryz.results28]
  repeat (first | refine z14 ?_ | refine z9 ?_ | refine z7 ?_ | (refine z5 fun K hK => ?_; simp (maxSteps := 4000000) only [go_sem]; (repeat (first | (refine ⟨_, .lent (hf := h1) (hd := rfl) (hr := rfl), ?_⟩; simp (maxSteps := 4000000) only [go_sem]) | (refine ⟨_, .lent (hf := h2) (hd := rfl) (hr := rfl), ?_⟩; simp (maxSteps := 4000000) only [go_sem]) | (refine ⟨_, .given (hf := h1) (hd := rfl) (ha := rfl), ?_⟩; simp (maxSteps := 4000000) only [go_sem]) | (refine ⟨_, .given (hf := h2) (hd := rfl) (ha := rfl), ?_⟩; simp (maxSteps := 4000000) only [go_sem]))); refine hK _ ?_; clear hK K) | refine z13 ?_ | refine z15 ?_ | refine z10 ?_ | refine z8 ?_ | refine z6 rfl ?_ | refine z12 ?_ | refine z3 ?_ | refine z16 ?_ | refine z11 ?_ | refine z4 ?_)
  simp (maxSteps := 4000000) only [go_sem]
  rfl
theorem exK_small : KitSmall exK := ⟨by decide, by decide, by decide, by intro l hl; simp [exK] at hl; rcases hl with rfl | rfl <;> decide, by decide, by intro l hl; simp [exK] at hl; subst hl; decide⟩
theorem exK_open : openK exK exM = 0 := by decide +kernel
theorem exK_order : orderK exK exM = [300, 0] := by decide +kernel
theorem exK_most : mostK exK exM = 2 ∧ leastK exK exM = 3 := by decide +kernel
theorem zf22 : Fn Tryz.prog 22 [] (.bool true) := by
  have h83 := zf28
  have h42 := zf23 exK exM exK_small (by decide) (by intro r hr; simp [exM] at hr; subst hr; decide)
  have h45 := zf19 exK exM exK_small (by decide) (by intro r hr; simp [exM] at hr; subst hr; decide)
  rw [exK_open, if_pos rfl] at h42 h45
  rw [exK_order] at h42
  rw [exK_most.1, exK_most.2] at h45
  rw [Kitchen.cells] at h42 h45 h83
  obtain ⟨X, hX⟩ : ∃ X, X = listRows exM := ⟨_, rfl⟩
  obtain ⟨A, hA⟩ : ∃ X, X = intRows exK.allerg := ⟨_, rfl⟩
  obtain ⟨B, hB⟩ : ∃ X, X = batRows exK.batches := ⟨_, rfl⟩
  obtain ⟨C, hC⟩ : ∃ X, X = dishRows exK.dishes := ⟨_, rfl⟩
  obtain ⟨D, hD⟩ : ∃ X, X = dayRows exK.days := ⟨_, rfl⟩
  rw [← hX, ← hA, ← hB, ← hC, ← hD] at h42 h45 h83
  have hi : intRows [300, 0] = [[.i 300], [.i 0]] := rfl
  rw [hi] at h42
  refine z21 50 Tryz.call22 Tryz.func22 rfl (by decide) fun J => ?_
  simp (maxSteps := 4000000) only [go_sem, St.start, Tryz.ntmps22, Tryz.results22]
  repeat (first | refine z18 rfl ?_ | refine z17 rfl ?_ | refine z14 ?_ | refine z9 ?_ | refine z7 ?_ | (refine z5 fun K hK => ?_; simp (maxSteps := 4000000) only [go_sem]; (repeat (first | (refine ⟨_, .lent (hf := h83) (hd := rfl) (hr := rfl), ?_⟩; simp (maxSteps := 4000000) only [go_sem]) | (refine ⟨_, .lent (hf := h42) (hd := rfl) (hr := rfl), ?_⟩; simp (maxSteps := 4000000) only [go_sem]) | (refine ⟨_, .lent (hf := h45) (hd := rfl) (hr := rfl), ?_⟩; simp (maxSteps := 4000000) only [go_sem]) | (refine ⟨_, .given (hf := h83) (hd := rfl) (ha := rfl), ?_⟩; simp (maxSteps := 4000000) only [go_sem]) | (refine ⟨_, .given (hf := h42) (hd := rfl) (ha := rfl), ?_⟩; simp (maxSteps := 4000000) only [go_sem]) | (refine ⟨_, .given (hf := h45) (hd := rfl) (ha := rfl), ?_⟩; simp (maxSteps := 4000000) only [go_sem]))); refine hK _ ?_; clear hK K) | refine z13 ?_ | refine z15 ?_ | refine z10 ?_ | refine z8 ?_ | refine z6 rfl ?_ | refine z12 ?_ | refine z3 ?_ | refine z16 ?_ | refine z11 ?_ | refine z4 ?_)
  simp (maxSteps := 4000000) only [go_sem]
end Go.Ab
namespace Go.Ab
open Go.RowKit Go.Proofs
set_option maxHeartbeats 8000000
set_option maxRecDepth 20000
attribute [local irreducible] WalkL Walk
theorem zf36 (n lo hi : Int) : Fn Tryz.prog 36 [.i n, .i lo, .i hi] (.bool (withinB n lo hi)) := by
  unfold withinB
  refine z21 15 Tryz.call36 Tryz.func36 rfl (by decide) fun J => ?_
  simp (maxSteps := 4000000) only [go_sem, St.start, Tryz.ntmps36, Tryz.results36]
  cases q : decide (lo ≤ n)
  · repeat (first | refine z14 ?_ | refine z9 ?_ | refine z7 ?_ | (refine z5 fun K hK => ?_; simp (maxSteps := 4000000) only [go_sem, q]; refine hK _ ?_; clear hK K) | refine z13 ?_ | refine z15 ?_ | refine z10 ?_ | refine z8 ?_ | refine z6 rfl ?_ | refine z12 ?_ | refine z3 ?_ | refine z16 ?_ | refine z11 ?_ | refine z4 ?_)
    simp (maxSteps := 4000000) only [go_sem, Bool.false_and]
  · repeat (first | refine z14 ?_ | refine z9 ?_ | refine z7 ?_ | (refine z5 fun K hK => ?_; simp (maxSteps := 4000000) only [go_sem, q]; refine hK _ ?_; clear hK K) | refine z13 ?_ | refine z15 ?_ | refine z10 ?_ | refine z8 ?_ | refine z6 rfl ?_ | refine z12 ?_ | refine z3 ?_ | refine z16 ?_ | refine z11 ?_ | refine z4 ?_)
    simp (maxSteps := 4000000) only [go_sem, Bool.true_and]
theorem zf49 (k : Kitchen) (b : Batch) (hg : k.allerg.length < 2 ^ 30) : Fn Tryz.prog 49 [.agg k.cells, .agg b.row] (.bool (batchB k.allerg.length b)) := by
  have h1 := zf36 b.good 0 ((k.allerg.length : Int) - 1)
  have h2 := zf36 b.amount 0 1000000
  have h3 := zf36 b.last 0 30
  have w : IntKind.i64.wrap ((k.allerg.length : Int) - 1) = (k.allerg.length : Int) - 1 := z23 (by omega)
  unfold batchB
  obtain ⟨b1, e1⟩ : ∃ x, x = withinB b.good 0 ((k.allerg.length : Int) - 1) := ⟨_, rfl⟩
  obtain ⟨b2, e2⟩ : ∃ x, x = withinB b.amount 0 1000000 := ⟨_, rfl⟩
  obtain ⟨b3, e3⟩ : ∃ x, x = withinB b.last 0 30 := ⟨_, rfl⟩
  rw [← e1] at h1 ⊢
  rw [← e2] at h2 ⊢
  rw [← e3] at h3 ⊢
  refine z21 22 Tryz.call49 Tryz.func49 rfl (by decide) fun J => ?_
  simp (maxSteps := 4000000) only [go_sem, St.start, Tryz.ntmps49, Tryz.results49, Batch.row, Kitchen.cells]
  cases b1 <;> cases b2
  all_goals
    repeat (first | refine z14 ?_ | refine z9 ?_ | refine z7 ?_ | (refine z5 fun K hK => ?_; simp (maxSteps := 4000000) only [go_sem, w]; (repeat (first | (refine ⟨_, .lent (hf := h1) (hd := rfl) (hr := rfl), ?_⟩; simp (maxSteps := 4000000) only [go_sem, w]) | (refine ⟨_, .lent (hf := h2) (hd := rfl) (hr := rfl), ?_⟩; simp (maxSteps := 4000000) only [go_sem, w]) | (refine ⟨_, .lent (hf := h3) (hd := rfl) (hr := rfl), ?_⟩; simp (maxSteps := 4000000) only [go_sem, w]) | (refine ⟨_, .given (hf := h1) (hd := rfl) (ha := rfl), ?_⟩; simp (maxSteps := 4000000) only [go_sem, w]) | (refine ⟨_, .given (hf := h2) (hd := rfl) (ha := rfl), ?_⟩; simp (maxSteps := 4000000) only [go_sem, w]) | (refine ⟨_, .given (hf := h3) (hd := rfl) (ha := rfl), ?_⟩; simp (maxSteps := 4000000) only [go_sem, w]))); refine hK _ ?_; clear hK K) | refine z13 ?_ | refine z15 ?_ | refine z10 ?_ | refine z8 ?_ | refine z6 rfl ?_ | refine z12 ?_ | refine z3 ?_ | refine z16 ?_ | refine z11 ?_ | refine z4 ?_)
    simp (maxSteps := 4000000) only [go_sem, Bool.false_and, Bool.true_and]
theorem zf50 (k : Kitchen) (d : Dish) (hg : k.allerg.length < 2 ^ 30) (hd : d.needs.length < 2 ^ 30) : Fn Tryz.prog 50 [.agg k.cells, .agg d.row] (.bool (dishB k.allerg.length d)) := by
  unfold dishB
  obtain ⟨R, hR⟩ : ∃ R, R = (((d.needs.length : Int) == (k.allerg.length : Int)) && d.needs.all needB) := ⟨_, rfl⟩
  rw [← hR]
  obtain ⟨N, hN⟩ : ∃ N, N = d.needs := ⟨_, rfl⟩
  rw [← hN] at hd hR
  refine z21 27 Tryz.call50 Tryz.func50 rfl (by decide) fun J => ?_
  simp (maxSteps := 4000000) only [go_sem, St.start, Tryz.ntmps50, Tryz.results50, Dish.row, Kitchen.cells]
  rw [← hN]
  repeat (first | refine z14 ?_ | refine z9 ?_ | refine z7 ?_ | (refine z5 fun K hK => ?_; simp (maxSteps := 4000000) only [go_sem]; refine hK _ ?_; clear hK K) | refine z13 ?_ | refine z15 ?_ | refine z10 ?_ | refine z8 ?_ | refine z6 rfl ?_ | refine z12 ?_ | refine z3 ?_ | refine z16 ?_ | refine z11 ?_ | refine z4 ?_)
  refine z22 (fun (i : Nat) => [(5, .d (.i (i : Int)))]) (fun _ => []) (fun i => i ≤ N.length ∧ N.all needB = (N.drop i).all needB) (fun i => N.length - i) 0 ?_ ⟨Nat.zero_le _, rfl⟩ ?_
  · simp (maxSteps := 4000000) only [go_sem]
    refine z19 [] ?_ ?_ rfl rfl <;> simp [lessT, lessM, lessB, AV.less]
  · rintro i ⟨hi, hall⟩
    simp (maxSteps := 4000000) only [go_sem]
    repeat (first | refine z14 ?_ | refine z9 ?_ | refine z7 ?_ | (refine z5 fun K hK => ?_; simp (maxSteps := 4000000) only [go_sem]; refine hK _ ?_; clear hK K) | refine z13 ?_ | refine z15 ?_ | refine z10 ?_ | refine z8 ?_ | refine z6 rfl ?_ | refine z12 ?_ | refine z3 ?_ | refine z16 ?_ | refine z11 ?_ | refine z4 ?_)
    refine z20 rfl (fun hb => ?_) (fun hb => ?_)
    · have hlt : i < N.length := by simpa using hb
      have hw : IntKind.i64.wrap ((i : Int) + 1) = ((i + 1 : Nat) : Int) := by rw [z23 (by omega)]; simp
      obtain ⟨x, hx⟩ : ∃ x, N[i]? = some x := ⟨_, List.getElem?_eq_getElem hlt⟩
      have g1 := z48 hx
      have hni : ¬ ((i : Int) < 0) := by omega
      have hc := zf36 x 0 5000
      rw [z30 hx, List.all_cons] at hall
      cases q : needB x
      · rw [q, Bool.false_and] at hall
        rw [hall, Bool.and_false] at hR
        rw [needB] at q
        rw [q] at hc
        repeat (first | refine z18 rfl ?_ | refine z17 rfl ?_ | refine z14 ?_ | refine z9 ?_ | refine z7 ?_ | (refine z5 fun K hK => ?_; simp (maxSteps := 4000000) only [go_sem, g1, hni]; (repeat (first | (refine ⟨_, .lent (hf := hc) (hd := rfl) (hr := rfl), ?_⟩; simp (maxSteps := 4000000) only [go_sem, g1, hni]) | (refine ⟨_, .given (hf := hc) (hd := rfl) (ha := rfl), ?_⟩; simp (maxSteps := 4000000) only [go_sem, g1, hni]))); refine hK _ ?_; clear hK K) | refine z13 ?_ | refine z15 ?_ | refine z10 ?_ | refine z8 ?_ | refine z6 rfl ?_ | refine z12 ?_ | refine z3 ?_ | refine z16 ?_ | refine z11 ?_ | refine z4 ?_)
        simp (maxSteps := 4000000) only [go_sem, hR]
      · rw [q, Bool.true_and] at hall
        rw [needB] at q
        rw [q] at hc
        repeat (first | refine z18 rfl ?_ | refine z17 rfl ?_ | refine z14 ?_ | refine z9 ?_ | refine z7 ?_ | (refine z5 fun K hK => ?_; simp (maxSteps := 4000000) only [go_sem, g1, hni, hw]; (repeat (first | (refine ⟨_, .lent (hf := hc) (hd := rfl) (hr := rfl), ?_⟩; simp (maxSteps := 4000000) only [go_sem, g1, hni, hw]) | (refine ⟨_, .given (hf := hc) (hd := rfl) (ha := rfl), ?_⟩; simp (maxSteps := 4000000) only [go_sem, g1, hni, hw]))); refine hK _ ?_; clear hK K) | refine z13 ?_ | refine z15 ?_ | refine z10 ?_ | refine z8 ?_ | refine z6 rfl ?_ | refine z12 ?_ | refine z3 ?_ | refine z16 ?_ | refine z11 ?_ | refine z4 ?_)
        refine ⟨rfl, i + 1, ?_, ⟨hlt, hall⟩, by omega⟩
        refine z19 [] ?_ ?_ rfl rfl <;> simp [lessT, lessM, lessB, AV.less]
    · have he : i = N.length := by (have : ¬ i < N.length := by simpa using hb); omega
      subst he
      rw [List.drop_length, List.all_nil] at hall
      rw [hall, Bool.and_true] at hR
      repeat (first | refine z14 ?_ | refine z9 ?_ | refine z7 ?_ | (refine z5 fun K hK => ?_; simp (maxSteps := 4000000) only [go_sem]; refine hK _ ?_; clear hK K) | refine z13 ?_ | refine z15 ?_ | refine z10 ?_ | refine z8 ?_ | refine z6 rfl ?_ | refine z12 ?_ | refine z3 ?_ | refine z16 ?_ | refine z11 ?_ | refine z4 ?_)
      simp (maxSteps := 4000000) only [go_sem, hR]
def badK1 (k : Kitchen) : Bool := !withinB (k.allerg.length : Int) 1 6 || (decide ((k.batches.length : Int) > 10) || (!withinB (k.dishes.length : Int) 1 5 || !withinB (k.days.length : Int) 1 6))
theorem kitE_bad {k : Kitchen} (h : badKit k = true) : kitE k = 70 := by rw [kitE, h]; rfl
theorem kitE_good {k : Kitchen} (h : badKit k = false) : kitE k = 0 := by rw [kitE, h]; rfl
def badG (g : Diners) : Bool := !withinB g.no 0 255 || (!withinB g.count.lo 0 g.count.hi || decide (g.count.hi > 100))
theorem groupB_eq (g : Diners) : groupB g = !badG g := by
  unfold groupB badG setB withinB
  rw [Bool.eq_iff_iff]
  simp
  intro _ _
  exact and_assoc.symm
theorem zf25 (k : Kitchen) (hs : KitSmall k) : Fn Tryz.prog 25 [.agg k.cells] (.i (kitE k)) := by
  have a1 := hs.allerg
  have h1 := zf36 (k.allerg.length : Int) 1 6
  have h5 := zf36 (k.dishes.length : Int) 1 5
  have h7 := zf36 (k.days.length : Int) 1 6
  have h92 := fun b => zf49 k b a1
  have h93 := fun d hd => zf50 k d a1 hd
  have a2 := hs.batches
  have a3 := hs.dishes
  have a4 := hs.needs
  have a5 := hs.days
  have a6 := hs.groups
  have kB : badKit k = (badK1 k || (!k.allerg.all setB || (!k.batches.all (batchB k.allerg.length) || (!k.dishes.all (dishB k.allerg.length) || !k.days.all dayB)))) := by
    unfold badKit badK1
    cases withinB (k.allerg.length : Int) 1 6 <;> cases decide ((k.batches.length : Int) > 10) <;> cases withinB (k.dishes.length : Int) 1 5 <;> cases withinB (k.days.length : Int) 1 6 <;> simp
  have kb := @kitE_bad k
  have kg := @kitE_good k
  rw [kB] at kb kg
  obtain ⟨E, hE⟩ : ∃ E, E = kitE k := ⟨_, rfl⟩
  rw [← hE] at kb kg ⊢
  rw [Kitchen.cells] at h92 h93
  refine z21 130 Tryz.call25 Tryz.func25 rfl (by decide) fun J => ?_
  simp (maxSteps := 4000000) only [go_sem, St.start, Tryz.ntmps25, Tryz.results25, Kitchen.cells]
  repeat (first | refine z14 ?_ | refine z9 ?_ | refine z7 ?_ | (refine z5 fun K hK => ?_; simp (maxSteps := 4000000) only [go_sem]; refine hK _ ?_; clear hK K) | refine z13 ?_ | refine z15 ?_ | refine z10 ?_ | refine z8 ?_ | refine z6 rfl ?_ | refine z12 ?_ | refine z3 ?_ | refine z16 ?_ | refine z11 ?_ | refine z4 ?_)
  refine z40 [(33, .d (.bool (badK1 k)))] [] ?_ ?_
  · refine z5 fun K hK => ?_
    simp (maxSteps := 4000000) only [go_sem]
    refine ⟨_, .lent (hf := h1) (hd := rfl) (hr := rfl), ?_⟩
    simp (maxSteps := 4000000) only [go_sem]
    by_cases ho0 : (!withinB (k.allerg.length : Int) 1 6) = true
    · simp (maxSteps := 4000000) only [go_sem, ho0]
      refine hK _ ?_
      clear hK K
      refine z13 ?_
      refine z4 ?_
      refine ⟨rfl, ?_⟩
      rw [show (badK1 k) = (true) from by simp [badK1, ho0]]
      simp (maxSteps := 4000000) only [go_sem]
      refine z19 [] ?_ ?_ rfl rfl <;> simp [lessT, lessM, lessB, AV.less]
    · simp (maxSteps := 4000000) only [go_sem, ho0]
      by_cases ho1 : (decide ((k.batches.length : Int) > 10)) = true
      · simp (maxSteps := 4000000) only [go_sem, ho0, ho1]
        refine hK _ ?_
        clear hK K
        refine z13 ?_
        refine z4 ?_
        refine ⟨rfl, ?_⟩
        rw [show (badK1 k) = (true) from by simp [badK1, ho0, ho1]]
        simp (maxSteps := 4000000) only [go_sem]
        refine z19 [] ?_ ?_ rfl rfl <;> simp [lessT, lessM, lessB, AV.less]
      · simp (maxSteps := 4000000) only [go_sem, ho0, ho1]
        refine ⟨_, .lent (hf := h5) (hd := rfl) (hr := rfl), ?_⟩
        simp (maxSteps := 4000000) only [go_sem, ho0, ho1]
        by_cases ho2 : (!withinB (k.dishes.length : Int) 1 5) = true
        · simp (maxSteps := 4000000) only [go_sem, ho0, ho1, ho2]
          refine hK _ ?_
          clear hK K
          refine z13 ?_
          refine z4 ?_
          refine ⟨rfl, ?_⟩
          rw [show (badK1 k) = (true) from by simp [badK1, ho0, ho1, ho2]]
          simp (maxSteps := 4000000) only [go_sem]
          refine z19 [] ?_ ?_ rfl rfl <;> simp [lessT, lessM, lessB, AV.less]
        · simp (maxSteps := 4000000) only [go_sem, ho0, ho1, ho2]
          refine ⟨_, .lent (hf := h7) (hd := rfl) (hr := rfl), ?_⟩
          simp (maxSteps := 4000000) only [go_sem, ho0, ho1, ho2]
          refine hK _ ?_
          clear hK K
          refine z13 ?_
          refine z4 ?_
          refine ⟨rfl, ?_⟩
          rw [show (badK1 k) = (!withinB (k.days.length : Int) 1 6) from by simp [badK1, ho0, ho1, ho2]]
          simp (maxSteps := 4000000) only [go_sem]
          refine z19 [] ?_ ?_ rfl rfl <;> simp [lessT, lessM, lessB, AV.less]
  simp (maxSteps := 4000000) only [go_sem]
  repeat (first | refine z14 ?_ | refine z9 ?_ | refine z7 ?_ | (refine z5 fun K hK => ?_; simp (maxSteps := 4000000) only [go_sem]; refine hK _ ?_; clear hK K) | refine z13 ?_ | refine z15 ?_ | refine z10 ?_ | refine z8 ?_ | refine z6 rfl ?_ | refine z12 ?_ | refine z3 ?_ | refine z16 ?_ | refine z11 ?_ | refine z4 ?_)
  refine z20 rfl (fun hc => ?_) (fun hc => ?_)
  · rw [hc, Bool.true_or] at kb
    have kb := kb rfl
    subst kb
    rw [hc]
    repeat (first | refine z14 ?_ | refine z9 ?_ | refine z7 ?_ | (refine z5 fun K hK => ?_; simp (maxSteps := 4000000) only [go_sem]; refine hK _ ?_; clear hK K) | refine z13 ?_ | refine z15 ?_ | refine z10 ?_ | refine z8 ?_ | refine z6 rfl ?_ | refine z12 ?_ | refine z3 ?_ | refine z16 ?_ | refine z11 ?_ | refine z4 ?_)
    simp (maxSteps := 4000000) only [go_sem, if_true]
  · rw [hc, Bool.false_or] at kb kg
    rw [hc]
    repeat (first | refine z14 ?_ | refine z9 ?_ | refine z7 ?_ | (refine z5 fun K hK => ?_; simp (maxSteps := 4000000) only [go_sem]; refine hK _ ?_; clear hK K) | refine z13 ?_ | refine z15 ?_ | refine z10 ?_ | refine z8 ?_ | refine z6 rfl ?_ | refine z12 ?_ | refine z3 ?_ | refine z16 ?_ | refine z11 ?_ | refine z4 ?_)
    refine z22 (fun (i : Nat) => [(3, .d (.i (i : Int)))]) (fun _ => []) (fun i => i ≤ k.allerg.length ∧ k.allerg.all (setB) = (k.allerg.drop i).all (setB)) (fun i => k.allerg.length - i) 0 ?_ ⟨Nat.zero_le _, rfl⟩ ?_
    · simp (maxSteps := 4000000) only [go_sem]
      refine z19 [] ?_ ?_ rfl rfl <;> simp [lessT, lessM, lessB, AV.less]
    · rintro i ⟨hi, hall⟩
      simp (maxSteps := 4000000) only [go_sem]
      repeat (first | refine z14 ?_ | refine z9 ?_ | refine z7 ?_ | (refine z5 fun K hK => ?_; simp (maxSteps := 4000000) only [go_sem]; refine hK _ ?_; clear hK K) | refine z13 ?_ | refine z15 ?_ | refine z10 ?_ | refine z8 ?_ | refine z6 rfl ?_ | refine z12 ?_ | refine z3 ?_ | refine z16 ?_ | refine z11 ?_ | refine z4 ?_)
      refine z20 rfl (fun hb => ?_) (fun hb => ?_)
      · have hlt : i < k.allerg.length := by simpa using hb
        have hw : IntKind.i64.wrap ((i : Int) + 1) = ((i + 1 : Nat) : Int) := by rw [z23 (by omega)]; simp
        obtain ⟨x, hx⟩ : ∃ x, k.allerg[i]? = some x := ⟨_, List.getElem?_eq_getElem hlt⟩
        have g1 := z48 hx
        have hni : ¬ ((i : Int) < 0) := by omega
        have hc := zf36 x 0 255
        rw [z30 hx, List.all_cons] at hall
        cases q : (setB) x
        · rw [q, Bool.false_and] at hall
          rw [hall] at kb
          have kb := kb rfl
          subst kb
          rw [setB] at q
          rw [q] at hc
          repeat (first | refine z18 rfl ?_ | refine z17 rfl ?_ | refine z14 ?_ | refine z9 ?_ | refine z7 ?_ | (refine z5 fun K hK => ?_; simp (maxSteps := 4000000) only [go_sem, g1, hni]; (repeat (first | (refine ⟨_, .lent (hf := hc) (hd := rfl) (hr := rfl), ?_⟩; simp (maxSteps := 4000000) only [go_sem, g1, hni]) | (refine ⟨_, .given (hf := hc) (hd := rfl) (ha := rfl), ?_⟩; simp (maxSteps := 4000000) only [go_sem, g1, hni]))); refine hK _ ?_; clear hK K) | refine z13 ?_ | refine z15 ?_ | refine z10 ?_ | refine z8 ?_ | refine z6 rfl ?_ | refine z12 ?_ | refine z3 ?_ | refine z16 ?_ | refine z11 ?_ | refine z4 ?_)
          simp (maxSteps := 4000000) only [go_sem]
        · rw [q, Bool.true_and] at hall
          rw [setB] at q
          rw [q] at hc
          repeat (first | refine z18 rfl ?_ | refine z17 rfl ?_ | refine z14 ?_ | refine z9 ?_ | refine z7 ?_ | (refine z5 fun K hK => ?_; simp (maxSteps := 4000000) only [go_sem, g1, hni, hw]; (repeat (first | (refine ⟨_, .lent (hf := hc) (hd := rfl) (hr := rfl), ?_⟩; simp (maxSteps := 4000000) only [go_sem, g1, hni, hw]) | (refine ⟨_, .given (hf := hc) (hd := rfl) (ha := rfl), ?_⟩; simp (maxSteps := 4000000) only [go_sem, g1, hni, hw]))); refine hK _ ?_; clear hK K) | refine z13 ?_ | refine z15 ?_ | refine z10 ?_ | refine z8 ?_ | refine z6 rfl ?_ | refine z12 ?_ | refine z3 ?_ | refine z16 ?_ | refine z11 ?_ | refine z4 ?_)
          refine ⟨rfl, i + 1, ?_, ⟨hlt, hall⟩, by omega⟩
          refine z19 [] ?_ ?_ rfl rfl <;> simp [lessT, lessM, lessB, AV.less]
      · have he : i = k.allerg.length := by (have : ¬ i < k.allerg.length := by simpa using hb); omega
        subst he
        rw [List.drop_length, List.all_nil] at hall
        rw [hall, Bool.not_true, Bool.false_or] at kb kg
        clear hall
        repeat (first | refine z14 ?_ | refine z9 ?_ | refine z7 ?_ | (refine z5 fun K hK => ?_; simp (maxSteps := 4000000) only [go_sem]; refine hK _ ?_; clear hK K) | refine z13 ?_ | refine z15 ?_ | refine z10 ?_ | refine z8 ?_ | refine z6 rfl ?_ | refine z12 ?_ | refine z3 ?_ | refine z16 ?_ | refine z11 ?_ | refine z4 ?_)
        refine z22 (fun (i : Nat) => [(4, .d (.i (i : Int)))]) (fun _ => []) (fun i => i ≤ k.batches.length ∧ k.batches.all (batchB k.allerg.length) = (k.batches.drop i).all (batchB k.allerg.length)) (fun i => k.batches.length - i) 0 ?_ ⟨Nat.zero_le _, rfl⟩ ?_
        · simp (maxSteps := 4000000) only [go_sem]
          refine z19 [] ?_ ?_ rfl rfl <;> simp [lessT, lessM, lessB, AV.less]
        · rintro i ⟨hi, hall⟩
          simp (maxSteps := 4000000) only [go_sem]
          repeat (first | refine z14 ?_ | refine z9 ?_ | refine z7 ?_ | (refine z5 fun K hK => ?_; simp (maxSteps := 4000000) only [go_sem]; refine hK _ ?_; clear hK K) | refine z13 ?_ | refine z15 ?_ | refine z10 ?_ | refine z8 ?_ | refine z6 rfl ?_ | refine z12 ?_ | refine z3 ?_ | refine z16 ?_ | refine z11 ?_ | refine z4 ?_)
          refine z20 rfl (fun hb => ?_) (fun hb => ?_)
          · have hlt : i < k.batches.length := by simpa using hb
            have hw : IntKind.i64.wrap ((i : Int) + 1) = ((i + 1 : Nat) : Int) := by rw [z23 (by omega)]; simp
            obtain ⟨x, hx⟩ : ∃ x, k.batches[i]? = some x := ⟨_, List.getElem?_eq_getElem hlt⟩
            have g1 := z205 hx
            have hni : ¬ ((i : Int) < 0) := by omega
            have hc := h92 x
            rw [Batch.row] at g1 hc
            rw [z30 hx, List.all_cons] at hall
            cases q : (batchB k.allerg.length) x
            · rw [q, Bool.false_and] at hall
              rw [hall] at kb
              have kb := kb rfl
              subst kb
              skip
              rw [q] at hc
              repeat (first | refine z14 ?_ | refine z9 ?_ | refine z7 ?_ | (refine z5 fun K hK => ?_; simp (maxSteps := 4000000) only [go_sem]; refine hK _ ?_; clear hK K) | refine z13 ?_ | refine z15 ?_ | refine z10 ?_ | refine z8 ?_ | refine z6 rfl ?_ | refine z12 ?_ | refine z3 ?_ | refine z16 ?_ | refine z11 ?_ | refine z4 ?_)
              refine z24 (by kernel_rfl) (by kernel_rfl) fun K hK => ?_
              simp (maxSteps := 4000000) only [go_sem, g1, hni]
              refine ⟨_, .fn (hf := hc) (hd := rfl) (hr := .inl rfl), ?_⟩
              simp (maxSteps := 4000000) only [go_sem]
              refine ⟨by kernel_rfl, hK _ ?_⟩
              clear hK K
              repeat (first | refine z18 rfl ?_ | refine z17 rfl ?_ | refine z14 ?_ | refine z9 ?_ | refine z7 ?_ | (refine z5 fun K hK => ?_; simp (maxSteps := 4000000) only [go_sem]; refine hK _ ?_; clear hK K) | refine z13 ?_ | refine z15 ?_ | refine z10 ?_ | refine z8 ?_ | refine z6 rfl ?_ | refine z12 ?_ | refine z3 ?_ | refine z16 ?_ | refine z11 ?_ | refine z4 ?_)
              simp (maxSteps := 4000000) only [go_sem]
            · rw [q, Bool.true_and] at hall
              skip
              rw [q] at hc
              repeat (first | refine z14 ?_ | refine z9 ?_ | refine z7 ?_ | (refine z5 fun K hK => ?_; simp (maxSteps := 4000000) only [go_sem]; refine hK _ ?_; clear hK K) | refine z13 ?_ | refine z15 ?_ | refine z10 ?_ | refine z8 ?_ | refine z6 rfl ?_ | refine z12 ?_ | refine z3 ?_ | refine z16 ?_ | refine z11 ?_ | refine z4 ?_)
              refine z24 (by kernel_rfl) (by kernel_rfl) fun K hK => ?_
              simp (maxSteps := 4000000) only [go_sem, g1, hni]
              refine ⟨_, .fn (hf := hc) (hd := rfl) (hr := .inl rfl), ?_⟩
              simp (maxSteps := 4000000) only [go_sem]
              refine ⟨by kernel_rfl, hK _ ?_⟩
              clear hK K
              repeat (first | refine z18 rfl ?_ | refine z17 rfl ?_ | refine z14 ?_ | refine z9 ?_ | refine z7 ?_ | (refine z5 fun K hK => ?_; simp (maxSteps := 4000000) only [go_sem, hw]; refine hK _ ?_; clear hK K) | refine z13 ?_ | refine z15 ?_ | refine z10 ?_ | refine z8 ?_ | refine z6 rfl ?_ | refine z12 ?_ | refine z3 ?_ | refine z16 ?_ | refine z11 ?_ | refine z4 ?_)
              refine ⟨rfl, i + 1, ?_, ⟨hlt, hall⟩, by omega⟩
              refine z19 [] ?_ ?_ rfl rfl <;> simp [lessT, lessM, lessB, AV.less]
          · have he : i = k.batches.length := by (have : ¬ i < k.batches.length := by simpa using hb); omega
            subst he
            rw [List.drop_length, List.all_nil] at hall
            rw [hall, Bool.not_true, Bool.false_or] at kb kg
            clear hall
            repeat (first | refine z14 ?_ | refine z9 ?_ | refine z7 ?_ | (refine z5 fun K hK => ?_; simp (maxSteps := 4000000) only [go_sem]; refine hK _ ?_; clear hK K) | refine z13 ?_ | refine z15 ?_ | refine z10 ?_ | refine z8 ?_ | refine z6 rfl ?_ | refine z12 ?_ | refine z3 ?_ | refine z16 ?_ | refine z11 ?_ | refine z4 ?_)
            refine z22 (fun (i : Nat) => [(5, .d (.i (i : Int)))]) (fun _ => []) (fun i => i ≤ k.dishes.length ∧ k.dishes.all (dishB k.allerg.length) = (k.dishes.drop i).all (dishB k.allerg.length)) (fun i => k.dishes.length - i) 0 ?_ ⟨Nat.zero_le _, rfl⟩ ?_
            · simp (maxSteps := 4000000) only [go_sem]
              refine z19 [] ?_ ?_ rfl rfl <;> simp [lessT, lessM, lessB, AV.less]
            · rintro i ⟨hi, hall⟩
              simp (maxSteps := 4000000) only [go_sem]
              repeat (first | refine z14 ?_ | refine z9 ?_ | refine z7 ?_ | (refine z5 fun K hK => ?_; simp (maxSteps := 4000000) only [go_sem]; refine hK _ ?_; clear hK K) | refine z13 ?_ | refine z15 ?_ | refine z10 ?_ | refine z8 ?_ | refine z6 rfl ?_ | refine z12 ?_ | refine z3 ?_ | refine z16 ?_ | refine z11 ?_ | refine z4 ?_)
              refine z20 rfl (fun hb => ?_) (fun hb => ?_)
              · have hlt : i < k.dishes.length := by simpa using hb
                have hw : IntKind.i64.wrap ((i : Int) + 1) = ((i + 1 : Nat) : Int) := by rw [z23 (by omega)]; simp
                obtain ⟨x, hx⟩ : ∃ x, k.dishes[i]? = some x := ⟨_, List.getElem?_eq_getElem hlt⟩
                have g1 := z102 hx
                have hni : ¬ ((i : Int) < 0) := by omega
                have hc := h93 x (a4 x (List.mem_of_getElem? hx))
                rw [Dish.row] at g1 hc
                rw [z30 hx, List.all_cons] at hall
                cases q : (dishB k.allerg.length) x
                · rw [q, Bool.false_and] at hall
                  rw [hall] at kb
                  have kb := kb rfl
                  subst kb
                  skip
                  rw [q] at hc
                  repeat (first | refine z14 ?_ | refine z9 ?_ | refine z7 ?_ | (refine z5 fun K hK => ?_; simp (maxSteps := 4000000) only [go_sem]; refine hK _ ?_; clear hK K) | refine z13 ?_ | refine z15 ?_ | refine z10 ?_ | refine z8 ?_ | refine z6 rfl ?_ | refine z12 ?_ | refine z3 ?_ | refine z16 ?_ | refine z11 ?_ | refine z4 ?_)
                  refine z24 (by kernel_rfl) (by kernel_rfl) fun K hK => ?_
                  simp (maxSteps := 4000000) only [go_sem, g1, hni]
                  refine ⟨_, .fn (hf := hc) (hd := rfl) (hr := .inl rfl), ?_⟩
                  simp (maxSteps := 4000000) only [go_sem]
                  refine ⟨by kernel_rfl, hK _ ?_⟩
                  clear hK K
                  repeat (first | refine z18 rfl ?_ | refine z17 rfl ?_ | refine z14 ?_ | refine z9 ?_ | refine z7 ?_ | (refine z5 fun K hK => ?_; simp (maxSteps := 4000000) only [go_sem]; refine hK _ ?_; clear hK K) | refine z13 ?_ | refine z15 ?_ | refine z10 ?_ | refine z8 ?_ | refine z6 rfl ?_ | refine z12 ?_ | refine z3 ?_ | refine z16 ?_ | refine z11 ?_ | refine z4 ?_)
                  simp (maxSteps := 4000000) only [go_sem]
                · rw [q, Bool.true_and] at hall
                  skip
                  rw [q] at hc
                  repeat (first | refine z14 ?_ | refine z9 ?_ | refine z7 ?_ | (refine z5 fun K hK => ?_; simp (maxSteps := 4000000) only [go_sem]; refine hK _ ?_; clear hK K) | refine z13 ?_ | refine z15 ?_ | refine z10 ?_ | refine z8 ?_ | refine z6 rfl ?_ | refine z12 ?_ | refine z3 ?_ | refine z16 ?_ | refine z11 ?_ | refine z4 ?_)
                  refine z24 (by kernel_rfl) (by kernel_rfl) fun K hK => ?_
                  simp (maxSteps := 4000000) only [go_sem, g1, hni]
                  refine ⟨_, .fn (hf := hc) (hd := rfl) (hr := .inl rfl), ?_⟩
                  simp (maxSteps := 4000000) only [go_sem]
                  refine ⟨by kernel_rfl, hK _ ?_⟩
                  clear hK K
                  repeat (first | refine z18 rfl ?_ | refine z17 rfl ?_ | refine z14 ?_ | refine z9 ?_ | refine z7 ?_ | (refine z5 fun K hK => ?_; simp (maxSteps := 4000000) only [go_sem, hw]; refine hK _ ?_; clear hK K) | refine z13 ?_ | refine z15 ?_ | refine z10 ?_ | refine z8 ?_ | refine z6 rfl ?_ | refine z12 ?_ | refine z3 ?_ | refine z16 ?_ | refine z11 ?_ | refine z4 ?_)
                  refine ⟨rfl, i + 1, ?_, ⟨hlt, hall⟩, by omega⟩
                  refine z19 [] ?_ ?_ rfl rfl <;> simp [lessT, lessM, lessB, AV.less]
              · have he : i = k.dishes.length := by (have : ¬ i < k.dishes.length := by simpa using hb); omega
                subst he
                rw [List.drop_length, List.all_nil] at hall
                rw [hall, Bool.not_true, Bool.false_or] at kb kg
                clear hall
                repeat (first | refine z14 ?_ | refine z9 ?_ | refine z7 ?_ | (refine z5 fun K hK => ?_; simp (maxSteps := 4000000) only [go_sem]; refine hK _ ?_; clear hK K) | refine z13 ?_ | refine z15 ?_ | refine z10 ?_ | refine z8 ?_ | refine z6 rfl ?_ | refine z12 ?_ | refine z3 ?_ | refine z16 ?_ | refine z11 ?_ | refine z4 ?_)
                refine z22 (fun (i : Nat) => [(6, .d (.i (i : Int))), (7, .undef), (8, .undef)]) (fun _ => []) (fun i => i ≤ k.days.length ∧ k.days.all dayB = (k.days.drop i).all dayB) (fun i => k.days.length - i) 0 ?_ ⟨Nat.zero_le _, rfl⟩ ?_
                · simp (maxSteps := 4000000) only [go_sem]
                  refine z19 [] ?_ ?_ rfl rfl <;> simp [lessT, lessM, lessB, AV.less]
                · rintro i ⟨hi, hall⟩
                  simp (maxSteps := 4000000) only [go_sem]
                  repeat (first | refine z14 ?_ | refine z9 ?_ | refine z7 ?_ | (refine z5 fun K hK => ?_; simp (maxSteps := 4000000) only [go_sem]; refine hK _ ?_; clear hK K) | refine z13 ?_ | refine z15 ?_ | refine z10 ?_ | refine z8 ?_ | refine z6 rfl ?_ | refine z12 ?_ | refine z3 ?_ | refine z16 ?_ | refine z11 ?_ | refine z4 ?_)
                  refine z20 rfl (fun hb => ?_) (fun hb => ?_)
                  · have hlt : i < k.days.length := by simpa using hb
                    have hw : IntKind.i64.wrap ((i : Int) + 1) = ((i + 1 : Nat) : Int) := by rw [z23 (by omega)]; simp
                    obtain ⟨x, hx⟩ : ∃ x, k.days[i]? = some x := ⟨_, List.getElem?_eq_getElem hlt⟩
                    have g1 := z77 hx
                    have hni : ¬ ((i : Int) < 0) := by omega
                    have hxl := a6 x (List.mem_of_getElem? hx)
                    rw [z30 hx, List.all_cons, dayB] at hall
                    cases q : decide ((x.length : Int) > 3)
                    · have q2 : decide ((x.length : Int) ≤ 3) = true := by simp at q ⊢; omega
                      rw [q2, Bool.true_and] at hall
                      have hx3 : x.length ≤ 3 := by simp at q2; omega
                      repeat (first | refine z18 rfl ?_ | refine z17 rfl ?_ | refine z14 ?_ | refine z9 ?_ | refine z7 ?_ | (refine z5 fun K hK => ?_; simp (maxSteps := 4000000) only [go_sem, g1, hni, q]; refine hK _ ?_; clear hK K) | refine z13 ?_ | refine z15 ?_ | refine z10 ?_ | refine z8 ?_ | refine z6 rfl ?_ | refine z12 ?_ | refine z3 ?_ | refine z16 ?_ | refine z11 ?_ | refine z4 ?_)
                      refine z22 (fun (j : Nat) => [(7, .d (.i (j : Int))), (8, .undef)]) (fun _ => []) (fun j => j ≤ x.length ∧ k.days.all dayB = ((x.drop j).all groupB && (k.days.drop (i + 1)).all dayB)) (fun j => x.length - j) 0 ?_ ⟨Nat.zero_le _, hall⟩ ?_
                      · simp (maxSteps := 4000000) only [go_sem]
                        refine z19 [] ?_ ?_ rfl rfl <;> simp [lessT, lessM, lessB, AV.less]
                      · rintro j ⟨hj, hallj⟩
                        simp (maxSteps := 4000000) only [go_sem]
                        repeat (first | refine z14 ?_ | refine z9 ?_ | refine z7 ?_ | (refine z5 fun K hK => ?_; simp (maxSteps := 4000000) only [go_sem, g1, hni]; refine hK _ ?_; clear hK K) | refine z13 ?_ | refine z15 ?_ | refine z10 ?_ | refine z8 ?_ | refine z6 rfl ?_ | refine z12 ?_ | refine z3 ?_ | refine z16 ?_ | refine z11 ?_ | refine z4 ?_)
                        refine z20 rfl (fun hb => ?_) (fun hb => ?_)
                        · have hltj : j < x.length := by simpa using hb
                          have hwj : IntKind.i64.wrap ((j : Int) + 1) = ((j + 1 : Nat) : Int) := by rw [z23 (by omega)]; simp
                          obtain ⟨y, hy⟩ : ∃ y, x[j]? = some y := ⟨_, List.getElem?_eq_getElem hltj⟩
                          have g3 := z114 hy
                          rw [Diners.row] at g3
                          have hnj : ¬ ((j : Int) < 0) := by omega
                          have c1 := zf36 y.no 0 255
                          have c2 := zf36 y.count.lo 0 y.count.hi
                          rw [z30 hy, List.all_cons, groupB_eq] at hallj
                          repeat (first | refine z14 ?_ | refine z9 ?_ | refine z7 ?_ | (refine z5 fun K hK => ?_; simp (maxSteps := 4000000) only [go_sem, g1, hni, g3, hnj]; refine hK _ ?_; clear hK K) | refine z13 ?_ | refine z15 ?_ | refine z10 ?_ | refine z8 ?_ | refine z6 rfl ?_ | refine z12 ?_ | refine z3 ?_ | refine z16 ?_ | refine z11 ?_ | refine z4 ?_)
                          refine z40 [(129, .d (.bool (badG y)))] [] ?_ ?_
                          · refine z5 fun K hK => ?_
                            simp (maxSteps := 4000000) only [go_sem]
                            refine ⟨_, .lent (hf := c1) (hd := rfl) (hr := rfl), ?_⟩
                            simp (maxSteps := 4000000) only [go_sem]
                            by_cases ho0 : (!withinB y.no 0 255) = true
                            · simp (maxSteps := 4000000) only [go_sem, ho0]
                              refine hK _ ?_
                              clear hK K
                              refine z13 ?_
                              refine z4 ?_
                              refine ⟨rfl, ?_⟩
                              rw [show (badG y) = (true) from by simp [badG, ho0]]
                              simp (maxSteps := 4000000) only [go_sem]
                              refine z19 [] ?_ ?_ rfl rfl <;> simp [lessT, lessM, lessB, AV.less]
                            · simp (maxSteps := 4000000) only [go_sem, ho0]
                              refine ⟨_, .lent (hf := c2) (hd := rfl) (hr := rfl), ?_⟩
                              simp (maxSteps := 4000000) only [go_sem, ho0]
                              by_cases ho1 : (!withinB y.count.lo 0 y.count.hi) = true
                              · simp (maxSteps := 4000000) only [go_sem, ho0, ho1]
                                refine hK _ ?_
                                clear hK K
                                refine z13 ?_
                                refine z4 ?_
                                refine ⟨rfl, ?_⟩
                                rw [show (badG y) = (true) from by simp [badG, ho0, ho1]]
                                simp (maxSteps := 4000000) only [go_sem]
                                refine z19 [] ?_ ?_ rfl rfl <;> simp [lessT, lessM, lessB, AV.less]
                              · simp (maxSteps := 4000000) only [go_sem, ho0, ho1]
                                refine hK _ ?_
                                clear hK K
                                refine z13 ?_
                                refine z4 ?_
                                refine ⟨rfl, ?_⟩
                                rw [show (badG y) = (decide (y.count.hi > 100)) from by simp [badG, ho0, ho1]]
                                simp (maxSteps := 4000000) only [go_sem]
                                refine z19 [] ?_ ?_ rfl rfl <;> simp [lessT, lessM, lessB, AV.less]
                          simp (maxSteps := 4000000) only [go_sem]
                          repeat (first | refine z14 ?_ | refine z9 ?_ | refine z7 ?_ | (refine z5 fun K hK => ?_; simp (maxSteps := 4000000) only [go_sem]; refine hK _ ?_; clear hK K) | refine z13 ?_ | refine z15 ?_ | refine z10 ?_ | refine z8 ?_ | refine z6 rfl ?_ | refine z12 ?_ | refine z3 ?_ | refine z16 ?_ | refine z11 ?_ | refine z4 ?_)
                          refine z20 rfl (fun hc => ?_) (fun hc => ?_)
                          · rw [hc, Bool.not_true, Bool.false_and, Bool.false_and] at hallj
                            rw [hallj] at kb
                            have kb := kb rfl
                            subst kb
                            rw [hc]
                            repeat (first | refine z14 ?_ | refine z9 ?_ | refine z7 ?_ | (refine z5 fun K hK => ?_; simp (maxSteps := 4000000) only [go_sem]; refine hK _ ?_; clear hK K) | refine z13 ?_ | refine z15 ?_ | refine z10 ?_ | refine z8 ?_ | refine z6 rfl ?_ | refine z12 ?_ | refine z3 ?_ | refine z16 ?_ | refine z11 ?_ | refine z4 ?_)
                            simp (maxSteps := 4000000) only [go_sem, if_true]
                          · rw [hc, Bool.not_false, Bool.true_and] at hallj
                            rw [hc]
                            repeat (first | refine z14 ?_ | refine z9 ?_ | refine z7 ?_ | (refine z5 fun K hK => ?_; simp (maxSteps := 4000000) only [go_sem, hwj]; refine hK _ ?_; clear hK K) | refine z13 ?_ | refine z15 ?_ | refine z10 ?_ | refine z8 ?_ | refine z6 rfl ?_ | refine z12 ?_ | refine z3 ?_ | refine z16 ?_ | refine z11 ?_ | refine z4 ?_)
                            refine ⟨rfl, j + 1, ?_, ⟨hltj, hallj⟩, by omega⟩
                            refine z19 [] ?_ ?_ rfl rfl <;> simp [lessT, lessM, lessB, AV.less]
                        · have he : j = x.length := by (have : ¬ j < x.length := by simpa using hb); omega
                          subst he
                          rw [List.drop_length, List.all_nil, Bool.true_and] at hallj
                          repeat (first | refine z14 ?_ | refine z9 ?_ | refine z7 ?_ | (refine z5 fun K hK => ?_; simp (maxSteps := 4000000) only [go_sem, hw]; refine hK _ ?_; clear hK K) | refine z13 ?_ | refine z15 ?_ | refine z10 ?_ | refine z8 ?_ | refine z6 rfl ?_ | refine z12 ?_ | refine z3 ?_ | refine z16 ?_ | refine z11 ?_ | refine z4 ?_)
                          refine ⟨rfl, i + 1, ?_, ⟨hlt, hallj⟩, by omega⟩
                          refine z19 [] ?_ ?_ rfl rfl <;> simp [lessT, lessM, lessB, AV.less]
                    · have q2 : decide ((x.length : Int) ≤ 3) = false := by simp at q ⊢; omega
                      rw [q2, Bool.false_and, Bool.false_and] at hall
                      rw [hall] at kb
                      have kb := kb rfl
                      subst kb
                      repeat (first | refine z18 rfl ?_ | refine z17 rfl ?_ | refine z14 ?_ | refine z9 ?_ | refine z7 ?_ | (refine z5 fun K hK => ?_; simp (maxSteps := 4000000) only [go_sem, g1, hni, q]; refine hK _ ?_; clear hK K) | refine z13 ?_ | refine z15 ?_ | refine z10 ?_ | refine z8 ?_ | refine z6 rfl ?_ | refine z12 ?_ | refine z3 ?_ | refine z16 ?_ | refine z11 ?_ | refine z4 ?_)
                      simp (maxSteps := 4000000) only [go_sem]
                  · have he : i = k.days.length := by (have : ¬ i < k.days.length := by simpa using hb); omega
                    subst he
                    rw [List.drop_length, List.all_nil] at hall
                    rw [hall] at kg
                    have kg := kg rfl
                    subst kg
                    repeat (first | refine z14 ?_ | refine z9 ?_ | refine z7 ?_ | (refine z5 fun K hK => ?_; simp (maxSteps := 4000000) only [go_sem]; refine hK _ ?_; clear hK K) | refine z13 ?_ | refine z15 ?_ | refine z10 ?_ | refine z8 ?_ | refine z6 rfl ?_ | refine z12 ?_ | refine z3 ?_ | refine z16 ?_ | refine z11 ?_ | refine z4 ?_)
                    simp (maxSteps := 4000000) only [go_sem]
end Go.Ab
namespace Go.Ab
open Go.RowKit Go.Proofs
set_option maxHeartbeats 8000000
set_option maxRecDepth 20000
attribute [local irreducible] WalkL Walk
theorem zf37 (k : Kitchen) (hg : KitGood k) (n : Nat) (no : Int) (hn : n < k.dishes.length) : Fn Tryz.prog 37 [.agg k.cells, .i (n : Int), .i no] (.bool (suitsB k (n : Int) no)) := by
  have gd := dish_at hn
  have hl := dish_len hg hn
  have hgo := hg.goods
  have hnn : ¬ ((n : Int) < 0) := by omega
  unfold suitsB
  obtain ⟨N, hN⟩ : ∃ N, N = (dishAt k (n : Int)).needs := ⟨_, rfl⟩
  rw [← hN] at gd hl ⊢
  refine z21 35 Tryz.call37 Tryz.func37 rfl (by decide) fun J => ?_
  simp (maxSteps := 4000000) only [go_sem, St.start, Tryz.ntmps37, Tryz.results37, Kitchen.cells]
  repeat (first | refine z14 ?_ | refine z9 ?_ | refine z7 ?_ | (refine z5 fun K hK => ?_; simp (maxSteps := 4000000) only [go_sem]; refine hK _ ?_; clear hK K) | refine z13 ?_ | refine z15 ?_ | refine z10 ?_ | refine z8 ?_ | refine z6 rfl ?_ | refine z12 ?_ | refine z3 ?_ | refine z16 ?_ | refine z11 ?_ | refine z4 ?_)
  refine z22 (fun (i : Nat) => [(7, .d (.i (i : Int)))]) (fun _ => []) (fun i => i ≤ k.allerg.length ∧ suitTo k.allerg N no i = true) (fun i => k.allerg.length - i) 0 ?_ ⟨Nat.zero_le _, rfl⟩ ?_
  · simp (maxSteps := 4000000) only [go_sem]
    refine z19 [] ?_ ?_ rfl rfl <;> simp [lessT, lessM, lessB, AV.less]
  · rintro i ⟨hi, hs⟩
    simp (maxSteps := 4000000) only [go_sem]
    repeat (first | refine z14 ?_ | refine z9 ?_ | refine z7 ?_ | (refine z5 fun K hK => ?_; simp (maxSteps := 4000000) only [go_sem]; refine hK _ ?_; clear hK K) | refine z13 ?_ | refine z15 ?_ | refine z10 ?_ | refine z8 ?_ | refine z6 rfl ?_ | refine z12 ?_ | refine z3 ?_ | refine z16 ?_ | refine z11 ?_ | refine z4 ?_)
    refine z20 rfl (fun hb => ?_) (fun hb => ?_)
    · have hlt : i < k.allerg.length := by simpa using hb
      have hw : IntKind.i64.wrap ((i : Int) + 1) = ((i + 1 : Nat) : Int) := by rw [z23 (by omega)]; simp
      have g1 := z33 (l := N) (i := i) (by omega)
      have g2 := z33 (l := k.allerg) (i := i) (by omega)
      have hni : ¬ ((i : Int) < 0) := by omega
      cases q1 : decide (getI N (i : Int) > 0)
      · have hbg : badGood k.allerg N no i = false := by rw [badGood, q1]; rfl
        repeat (first | refine z18 rfl ?_ | refine z17 rfl ?_ | refine z14 ?_ | refine z9 ?_ | refine z7 ?_ | (refine z5 fun K hK => ?_; simp (maxSteps := 4000000) only [go_sem, gd, hnn, g1, q1, hni, hw]; refine hK _ ?_; clear hK K) | refine z13 ?_ | refine z15 ?_ | refine z10 ?_ | refine z8 ?_ | refine z6 rfl ?_ | refine z12 ?_ | refine z3 ?_ | refine z16 ?_ | refine z11 ?_ | refine z4 ?_)
        refine ⟨rfl, i + 1, ?_, ⟨hlt, by rw [suitTo, hs, hbg]; rfl⟩, by omega⟩
        refine z19 [] ?_ ?_ rfl rfl <;> simp [lessT, lessM, lessB, AV.less]
      · cases q2 : (bAnd .i64 (getI k.allerg (i : Int)) no != 0)
        · have hbg : badGood k.allerg N no i = false := by rw [badGood, q2, Bool.and_false]
          repeat (first | refine z18 rfl ?_ | refine z17 rfl ?_ | refine z14 ?_ | refine z9 ?_ | refine z7 ?_ | (refine z5 fun K hK => ?_; simp (maxSteps := 4000000) only [go_sem, gd, hnn, g1, g2, q1, q2, hni, hw]; refine hK _ ?_; clear hK K) | refine z13 ?_ | refine z15 ?_ | refine z10 ?_ | refine z8 ?_ | refine z6 rfl ?_ | refine z12 ?_ | refine z3 ?_ | refine z16 ?_ | refine z11 ?_ | refine z4 ?_)
          refine ⟨rfl, i + 1, ?_, ⟨hlt, by rw [suitTo, hs, hbg]; rfl⟩, by omega⟩
          refine z19 [] ?_ ?_ rfl rfl <;> simp [lessT, lessM, lessB, AV.less]
        · have hbg : badGood k.allerg N no i = true := by rw [badGood, q1, q2]; rfl
          rw [z248 hbg (m := N.length) (by omega)]
          repeat (first | refine z18 rfl ?_ | refine z17 rfl ?_ | refine z14 ?_ | refine z9 ?_ | refine z7 ?_ | (refine z5 fun K hK => ?_; simp (maxSteps := 4000000) only [go_sem, gd, hnn, g1, g2, q1, q2, hni]; refine hK _ ?_; clear hK K) | refine z13 ?_ | refine z15 ?_ | refine z10 ?_ | refine z8 ?_ | refine z6 rfl ?_ | refine z12 ?_ | refine z3 ?_ | refine z16 ?_ | refine z11 ?_ | refine z4 ?_)
          simp (maxSteps := 4000000) only [go_sem]
    · have he : i = k.allerg.length := by (have : ¬ i < k.allerg.length := by simpa using hb); omega
      subst he
      rw [hl, hs]
      repeat (first | refine z14 ?_ | refine z9 ?_ | refine z7 ?_ | (refine z5 fun K hK => ?_; simp (maxSteps := 4000000) only [go_sem]; refine hK _ ?_; clear hK K) | refine z13 ?_ | refine z15 ?_ | refine z10 ?_ | refine z8 ?_ | refine z6 rfl ?_ | refine z12 ?_ | refine z3 ?_ | refine z16 ?_ | refine z11 ?_ | refine z4 ?_)
      simp (maxSteps := 4000000) only [go_sem]
theorem zf16 (k : Kitchen) (hg : KitGood k) (M : List (List Int)) (hM : M.length < 2 ^ 30) (hMr : ∀ r ∈ M, r.length < 2 ^ 30) : Fn Tryz.prog 16 [.agg k.cells, .sl (listRows M)] (.bool (shapedB (menuB k) M k.days)) := by
  obtain ⟨q, hqd⟩ : ∃ q, q = menuB k := ⟨_, rfl⟩
  have hq : ∀ (n : Int) (g : Diners), q n g = (withinB n 0 ((k.dishes.length : Int) - 1) && suitsB k n g.no) := fun n g => by rw [hqd]; rfl
  rw [← hqd]
  have hgr := hg.groups
  have hdl := hg.dishes
  have w : IntKind.i64.wrap ((k.dishes.length : Int) - 1) = (k.dishes.length : Int) - 1 := z23 (by omega)
  obtain ⟨R, hR⟩ : ∃ R, R = shapedB q M k.days := ⟨_, rfl⟩
  rw [← hR]
  cases q1 : ((M.length : Int) != (k.days.length : Int))
  · have hl : M.length = k.days.length := by
      simp only [bne_eq_false_iff_eq] at q1
      omega
    refine z21 74 Tryz.call16 Tryz.func16 rfl (by decide) fun J => ?_
    simp (maxSteps := 4000000) only [go_sem, St.start, Tryz.ntmps16, Tryz.results16, Kitchen.cells]
    repeat (first | refine z18 rfl ?_ | refine z17 rfl ?_ | refine z14 ?_ | refine z9 ?_ | refine z7 ?_ | (refine z5 fun K hK => ?_; simp (maxSteps := 4000000) only [go_sem, q1, z39]; refine hK _ ?_; clear hK K) | refine z13 ?_ | refine z15 ?_ | refine z10 ?_ | refine z8 ?_ | refine z6 rfl ?_ | refine z12 ?_ | refine z3 ?_ | refine z16 ?_ | refine z11 ?_ | refine z4 ?_)
    refine z22 (fun (i : Nat) => [(5, .d (.i (i : Int))), (6, .undef)]) (fun _ => []) (fun i => i ≤ M.length ∧ R = shapedB q (M.drop i) (k.days.drop i)) (fun i => M.length - i) 0 ?_ ⟨Nat.zero_le _, hR⟩ ?_
    · simp (maxSteps := 4000000) only [go_sem]
      refine z19 [] ?_ ?_ rfl rfl <;> simp [lessT, lessM, lessB, AV.less]
    · rintro i ⟨hi, hRi⟩
      simp (maxSteps := 4000000) only [go_sem]
      repeat (first | refine z14 ?_ | refine z9 ?_ | refine z7 ?_ | (refine z5 fun K hK => ?_; simp (maxSteps := 4000000) only [go_sem, z39]; refine hK _ ?_; clear hK K) | refine z13 ?_ | refine z15 ?_ | refine z10 ?_ | refine z8 ?_ | refine z6 rfl ?_ | refine z12 ?_ | refine z3 ?_ | refine z16 ?_ | refine z11 ?_ | refine z4 ?_)
      refine z20 rfl (fun hb => ?_) (fun hb => ?_)
      · have hlt : i < M.length := by simpa using hb
        have hw : IntKind.i64.wrap ((i : Int) + 1) = ((i + 1 : Nat) : Int) := by rw [z23 (by omega)]; simp
        obtain ⟨d, hd⟩ : ∃ d, k.days[i]? = some d := ⟨_, List.getElem?_eq_getElem (by omega)⟩
        obtain ⟨r, hr⟩ : ∃ r, M[i]? = some r := ⟨_, List.getElem?_eq_getElem (by omega)⟩
        have g1 := z77 hd
        have g2 := z62 hr
        have hni : ¬ ((i : Int) < 0) := by omega
        have hd3 := (hgr d (List.mem_of_getElem? hd)).1
        rw [z30 hd, z30 hr, shapedB] at hRi
        cases q2 : ((r.length : Int) != (d.length : Int))
        · have hrl : r.length = d.length := by
            simp only [bne_eq_false_iff_eq] at q2
            omega
          repeat (first | refine z14 ?_ | refine z9 ?_ | refine z7 ?_ | (refine z5 fun K hK => ?_; simp (maxSteps := 4000000) only [go_sem]; refine hK _ ?_; clear hK K) | refine z13 ?_ | refine z15 ?_ | refine z10 ?_ | refine z8 ?_ | refine z6 rfl ?_ | refine z12 ?_ | refine z3 ?_ | refine z16 ?_ | refine z11 ?_ | refine z4 ?_)
          refine z24 (by kernel_rfl) (by kernel_rfl) fun K hK => ?_
          simp (maxSteps := 4000000) only [go_sem, g1, g2, hni, q2]
          refine ⟨by kernel_rfl, hK _ ?_⟩
          clear hK K
          repeat (first | refine z18 rfl ?_ | refine z17 rfl ?_ | refine z14 ?_ | refine z9 ?_ | refine z7 ?_ | (refine z5 fun K hK => ?_; simp (maxSteps := 4000000) only [go_sem]; refine hK _ ?_; clear hK K) | refine z13 ?_ | refine z15 ?_ | refine z10 ?_ | refine z8 ?_ | refine z6 rfl ?_ | refine z12 ?_ | refine z3 ?_ | refine z16 ?_ | refine z11 ?_ | refine z4 ?_)
          refine z22 (fun (j : Nat) => [(6, .d (.i (j : Int)))]) (fun _ => []) (fun j => j ≤ r.length ∧ R = (rowOk q (r.drop j) (d.drop j) && shapedB q (M.drop (i + 1)) (k.days.drop (i + 1)))) (fun j => r.length - j) 0 ?_ ⟨Nat.zero_le _, hRi⟩ ?_
          · simp (maxSteps := 4000000) only [go_sem]
            refine z19 [] ?_ ?_ rfl rfl <;> simp [lessT, lessM, lessB, AV.less]
          · rintro j ⟨hj, hRj⟩
            simp (maxSteps := 4000000) only [go_sem]
            repeat (first | refine z14 ?_ | refine z9 ?_ | refine z7 ?_ | (refine z5 fun K hK => ?_; simp (maxSteps := 4000000) only [go_sem, g2, hni]; refine hK _ ?_; clear hK K) | refine z13 ?_ | refine z15 ?_ | refine z10 ?_ | refine z8 ?_ | refine z6 rfl ?_ | refine z12 ?_ | refine z3 ?_ | refine z16 ?_ | refine z11 ?_ | refine z4 ?_)
            refine z20 rfl (fun hb => ?_) (fun hb => ?_)
            · have hltj : j < r.length := by simpa using hb
              have hwj : IntKind.i64.wrap ((j : Int) + 1) = ((j + 1 : Nat) : Int) := by rw [z23 (by omega)]; simp
              obtain ⟨g, hgj⟩ : ∃ g, d[j]? = some g := ⟨_, List.getElem?_eq_getElem (by omega)⟩
              obtain ⟨n, hnj⟩ : ∃ n, r[j]? = some n := ⟨_, List.getElem?_eq_getElem (by omega)⟩
              have g3 := z114 hgj
              have g4 := z48 hnj
              rw [Diners.row] at g3
              have hnjj : ¬ ((j : Int) < 0) := by omega
              have c1 := zf36 n 0 ((k.dishes.length : Int) - 1)
              rw [z30 hgj, z30 hnj, rowOk, hq] at hRj
              cases q3 : withinB n 0 ((k.dishes.length : Int) - 1)
              · rw [q3] at hRj c1
                rw [Bool.false_and, Bool.false_and, Bool.false_and] at hRj
                rw [hRj]
                repeat (first | refine z14 ?_ | refine z9 ?_ | refine z7 ?_ | (refine z5 fun K hK => ?_; simp (maxSteps := 4000000) only [go_sem]; refine hK _ ?_; clear hK K) | refine z13 ?_ | refine z15 ?_ | refine z10 ?_ | refine z8 ?_ | refine z6 rfl ?_ | refine z12 ?_ | refine z3 ?_ | refine z16 ?_ | refine z11 ?_ | refine z4 ?_)
                refine z24 (by kernel_rfl) (by kernel_rfl) fun K hK => ?_
                simp (maxSteps := 4000000) only [go_sem, g1, g2, g3, g4, hni, hnjj, w]
                refine ⟨_, .fn (hf := c1) (hd := rfl) (hr := .inl rfl), ?_⟩
                simp (maxSteps := 4000000) only [go_sem]
                refine ⟨by kernel_rfl, hK _ ?_⟩
                clear hK K
                repeat (first | refine z18 rfl ?_ | refine z17 rfl ?_ | refine z14 ?_ | refine z9 ?_ | refine z7 ?_ | (refine z5 fun K hK => ?_; simp (maxSteps := 4000000) only [go_sem]; refine hK _ ?_; clear hK K) | refine z13 ?_ | refine z15 ?_ | refine z10 ?_ | refine z8 ?_ | refine z6 rfl ?_ | refine z12 ?_ | refine z3 ?_ | refine z16 ?_ | refine z11 ?_ | refine z4 ?_)
                simp (maxSteps := 4000000) only [go_sem]
              · rw [q3] at hRj c1
                rw [Bool.true_and] at hRj
                have hw3 := z27.1 q3
                obtain ⟨m, rfl⟩ : ∃ m : Nat, n = (m : Int) := ⟨n.toNat, by omega⟩
                have c2 := zf37 k hg m g.no (by omega)
                cases q4 : suitsB k (m : Int) g.no
                · rw [q4] at hRj c2
                  rw [Bool.false_and, Bool.false_and] at hRj
                  rw [hRj]
                  rw [Kitchen.cells] at c2
                  repeat (first | refine z14 ?_ | refine z9 ?_ | refine z7 ?_ | (refine z5 fun K hK => ?_; simp (maxSteps := 4000000) only [go_sem]; refine hK _ ?_; clear hK K) | refine z13 ?_ | refine z15 ?_ | refine z10 ?_ | refine z8 ?_ | refine z6 rfl ?_ | refine z12 ?_ | refine z3 ?_ | refine z16 ?_ | refine z11 ?_ | refine z4 ?_)
                  refine z24 (by kernel_rfl) (by kernel_rfl) fun K hK => ?_
                  simp (maxSteps := 4000000) only [go_sem, g1, g2, g3, g4, hni, hnjj, w]
                  refine ⟨_, .fn (hf := c1) (hd := rfl) (hr := .inl rfl), ?_⟩
                  simp (maxSteps := 4000000) only [go_sem, g1, g2, g3, g4, hni, hnjj]
                  refine ⟨_, .fn (hf := c2) (hd := rfl) (hr := .inl rfl), ?_⟩
                  simp (maxSteps := 4000000) only [go_sem]
                  refine ⟨by kernel_rfl, hK _ ?_⟩
                  clear hK K
                  repeat (first | refine z18 rfl ?_ | refine z17 rfl ?_ | refine z14 ?_ | refine z9 ?_ | refine z7 ?_ | (refine z5 fun K hK => ?_; simp (maxSteps := 4000000) only [go_sem]; refine hK _ ?_; clear hK K) | refine z13 ?_ | refine z15 ?_ | refine z10 ?_ | refine z8 ?_ | refine z6 rfl ?_ | refine z12 ?_ | refine z3 ?_ | refine z16 ?_ | refine z11 ?_ | refine z4 ?_)
                  simp (maxSteps := 4000000) only [go_sem]
                · rw [q4] at hRj c2
                  rw [Bool.true_and] at hRj
                  rw [Kitchen.cells] at c2
                  repeat (first | refine z14 ?_ | refine z9 ?_ | refine z7 ?_ | (refine z5 fun K hK => ?_; simp (maxSteps := 4000000) only [go_sem]; refine hK _ ?_; clear hK K) | refine z13 ?_ | refine z15 ?_ | refine z10 ?_ | refine z8 ?_ | refine z6 rfl ?_ | refine z12 ?_ | refine z3 ?_ | refine z16 ?_ | refine z11 ?_ | refine z4 ?_)
                  refine z24 (by kernel_rfl) (by kernel_rfl) fun K hK => ?_
                  simp (maxSteps := 4000000) only [go_sem, g1, g2, g3, g4, hni, hnjj, w]
                  refine ⟨_, .fn (hf := c1) (hd := rfl) (hr := .inl rfl), ?_⟩
                  simp (maxSteps := 4000000) only [go_sem, g1, g2, g3, g4, hni, hnjj]
                  refine ⟨_, .fn (hf := c2) (hd := rfl) (hr := .inl rfl), ?_⟩
                  simp (maxSteps := 4000000) only [go_sem]
                  refine ⟨by kernel_rfl, hK _ ?_⟩
                  clear hK K
                  repeat (first | refine z18 rfl ?_ | refine z17 rfl ?_ | refine z14 ?_ | refine z9 ?_ | refine z7 ?_ | (refine z5 fun K hK => ?_; simp (maxSteps := 4000000) only [go_sem, hwj]; refine hK _ ?_; clear hK K) | refine z13 ?_ | refine z15 ?_ | refine z10 ?_ | refine z8 ?_ | refine z6 rfl ?_ | refine z12 ?_ | refine z3 ?_ | refine z16 ?_ | refine z11 ?_ | refine z4 ?_)
                  refine ⟨rfl, j + 1, ?_, ⟨hltj, hRj⟩, by omega⟩
                  refine z19 [] ?_ ?_ rfl rfl <;> simp [lessT, lessM, lessB, AV.less]
            · have he : j = r.length := by (have : ¬ j < r.length := by simpa using hb); omega
              subst he
              rw [List.drop_length, hrl, List.drop_length, rowOk, Bool.true_and] at hRj
              repeat (first | refine z14 ?_ | refine z9 ?_ | refine z7 ?_ | (refine z5 fun K hK => ?_; simp (maxSteps := 4000000) only [go_sem, hw]; refine hK _ ?_; clear hK K) | refine z13 ?_ | refine z15 ?_ | refine z10 ?_ | refine z8 ?_ | refine z6 rfl ?_ | refine z12 ?_ | refine z3 ?_ | refine z16 ?_ | refine z11 ?_ | refine z4 ?_)
              refine ⟨rfl, i + 1, ?_, ⟨hlt, hRj⟩, by omega⟩
              refine z19 [] ?_ ?_ rfl rfl <;> simp [lessT, lessM, lessB, AV.less]
        · have hf : rowOk q r d = false := by
            cases hx : rowOk q r d with
            | false => rfl
            | true =>
              have := z174 hx
              rw [this] at q2
              simp at q2
          rw [hf, Bool.false_and] at hRi
          rw [hRi]
          repeat (first | refine z14 ?_ | refine z9 ?_ | refine z7 ?_ | (refine z5 fun K hK => ?_; simp (maxSteps := 4000000) only [go_sem]; refine hK _ ?_; clear hK K) | refine z13 ?_ | refine z15 ?_ | refine z10 ?_ | refine z8 ?_ | refine z6 rfl ?_ | refine z12 ?_ | refine z3 ?_ | refine z16 ?_ | refine z11 ?_ | refine z4 ?_)
          refine z24 (by kernel_rfl) (by kernel_rfl) fun K hK => ?_
          simp (maxSteps := 4000000) only [go_sem, g1, g2, hni, q2]
          refine ⟨by kernel_rfl, hK _ ?_⟩
          clear hK K
          repeat (first | refine z18 rfl ?_ | refine z17 rfl ?_ | refine z14 ?_ | refine z9 ?_ | refine z7 ?_ | (refine z5 fun K hK => ?_; simp (maxSteps := 4000000) only [go_sem]; refine hK _ ?_; clear hK K) | refine z13 ?_ | refine z15 ?_ | refine z10 ?_ | refine z8 ?_ | refine z6 rfl ?_ | refine z12 ?_ | refine z3 ?_ | refine z16 ?_ | refine z11 ?_ | refine z4 ?_)
          simp (maxSteps := 4000000) only [go_sem]
      · have he : i = M.length := by (have : ¬ i < M.length := by simpa using hb); omega
        subst he
        rw [List.drop_length, hl, List.drop_length, shapedB] at hRi
        rw [hRi]
        repeat (first | refine z14 ?_ | refine z9 ?_ | refine z7 ?_ | (refine z5 fun K hK => ?_; simp (maxSteps := 4000000) only [go_sem]; refine hK _ ?_; clear hK K) | refine z13 ?_ | refine z15 ?_ | refine z10 ?_ | refine z8 ?_ | refine z6 rfl ?_ | refine z12 ?_ | refine z3 ?_ | refine z16 ?_ | refine z11 ?_ | refine z4 ?_)
        simp (maxSteps := 4000000) only [go_sem]
  · have hf : R = false := by
      rw [hR]
      cases hx : shapedB q M k.days with
      | false => rfl
      | true =>
        have := z74 hx
        rw [this] at q1
        simp at q1
    rw [hf]
    refine z21 74 Tryz.call16 Tryz.func16 rfl (by decide) fun J => ?_
    simp (maxSteps := 4000000) only [go_sem, St.start, Tryz.ntmps16, Tryz.results16, Kitchen.cells]
    repeat (first | refine z18 rfl ?_ | refine z17 rfl ?_ | refine z14 ?_ | refine z9 ?_ | refine z7 ?_ | (refine z5 fun K hK => ?_; simp (maxSteps := 4000000) only [go_sem, q1, z39]; refine hK _ ?_; clear hK K) | refine z13 ?_ | refine z15 ?_ | refine z10 ?_ | refine z8 ?_ | refine z6 rfl ?_ | refine z12 ?_ | refine z3 ?_ | refine z16 ?_ | refine z11 ?_ | refine z4 ?_)
    simp (maxSteps := 4000000) only [go_sem]
theorem zf21 (k : Kitchen) (M : List (List Int)) (hs : KitSmall k) (hM : M.length < 2 ^ 30) (hMr : ∀ r ∈ M, r.length < 2 ^ 30) : Fn Tryz.prog 21 [.agg k.cells, .sl (listRows M)] (.i (openK k M)) := by
  have h44 := zf25 k hs
  unfold openK
  by_cases h0 : kitE k = 0
  · have h82 := zf16 k (z179 (z144.1 h0)) M hM hMr
    rw [if_pos h0]
    rw [h0] at h44
    rw [Kitchen.cells] at h44 h82
    cases q : shapedB (menuB k) M k.days
    · rw [q] at h82
      refine z21 12 Tryz.call21 Tryz.func21 rfl (by decide) fun J => ?_
      simp (maxSteps := 4000000) only [go_sem, St.start, Tryz.ntmps21, Tryz.results21, Kitchen.cells]
      repeat (first | refine z18 rfl ?_ | refine z17 rfl ?_ | refine z14 ?_ | refine z9 ?_ | refine z7 ?_ | (refine z5 fun K hK => ?_; simp (maxSteps := 4000000) only [go_sem]; (repeat (first | (refine ⟨_, .lent (hf := h44) (hd := rfl) (hr := rfl), ?_⟩; simp (maxSteps := 4000000) only [go_sem]) | (refine ⟨_, .lent (hf := h82) (hd := rfl) (hr := rfl), ?_⟩; simp (maxSteps := 4000000) only [go_sem]) | (refine ⟨_, .given (hf := h44) (hd := rfl) (ha := rfl), ?_⟩; simp (maxSteps := 4000000) only [go_sem]) | (refine ⟨_, .given (hf := h82) (hd := rfl) (ha := rfl), ?_⟩; simp (maxSteps := 4000000) only [go_sem]))); refine hK _ ?_; clear hK K) | refine z13 ?_ | refine z15 ?_ | refine z10 ?_ | refine z8 ?_ | refine z6 rfl ?_ | refine z12 ?_ | refine z3 ?_ | refine z16 ?_ | refine z11 ?_ | refine z4 ?_)
      simp (maxSteps := 4000000) only [go_sem]
    · rw [q] at h82
      refine z21 12 Tryz.call21 Tryz.func21 rfl (by decide) fun J => ?_
      simp (maxSteps := 4000000) only [go_sem, St.start, Tryz.ntmps21, Tryz.results21, Kitchen.cells]
      repeat (first | refine z18 rfl ?_ | refine z17 rfl ?_ | refine z14 ?_ | refine z9 ?_ | refine z7 ?_ | (refine z5 fun K hK => ?_; simp (maxSteps := 4000000) only [go_sem]; (repeat (first | (refine ⟨_, .lent (hf := h44) (hd := rfl) (hr := rfl), ?_⟩; simp (maxSteps := 4000000) only [go_sem]) | (refine ⟨_, .lent (hf := h82) (hd := rfl) (hr := rfl), ?_⟩; simp (maxSteps := 4000000) only [go_sem]) | (refine ⟨_, .given (hf := h44) (hd := rfl) (ha := rfl), ?_⟩; simp (maxSteps := 4000000) only [go_sem]) | (refine ⟨_, .given (hf := h82) (hd := rfl) (ha := rfl), ?_⟩; simp (maxSteps := 4000000) only [go_sem]))); refine hK _ ?_; clear hK K) | refine z13 ?_ | refine z15 ?_ | refine z10 ?_ | refine z8 ?_ | refine z6 rfl ?_ | refine z12 ?_ | refine z3 ?_ | refine z16 ?_ | refine z11 ?_ | refine z4 ?_)
      simp (maxSteps := 4000000) only [go_sem]
  · rw [if_neg h0]
    have e70 : kitE k = 70 := by unfold kitE at h0 ⊢; split <;> simp_all
    rw [e70] at h44 ⊢
    rw [Kitchen.cells] at h44
    refine z21 12 Tryz.call21 Tryz.func21 rfl (by decide) fun J => ?_
    simp (maxSteps := 4000000) only [go_sem, St.start, Tryz.ntmps21, Tryz.results21, Kitchen.cells]
    repeat (first | refine z18 rfl ?_ | refine z17 rfl ?_ | refine z14 ?_ | refine z9 ?_ | refine z7 ?_ | (refine z5 fun K hK => ?_; simp (maxSteps := 4000000) only [go_sem]; (repeat (first | (refine ⟨_, .lent (hf := h44) (hd := rfl) (hr := rfl), ?_⟩; simp (maxSteps := 4000000) only [go_sem]) | (refine ⟨_, .given (hf := h44) (hd := rfl) (ha := rfl), ?_⟩; simp (maxSteps := 4000000) only [go_sem]))); refine hK _ ?_; clear hK K) | refine z13 ?_ | refine z15 ?_ | refine z10 ?_ | refine z8 ?_ | refine z6 rfl ?_ | refine z12 ?_ | refine z3 ?_ | refine z16 ?_ | refine z11 ?_ | refine z4 ?_)
    simp (maxSteps := 4000000) only [go_sem]
end Go.Ab
namespace Go.Ab
open Go.RowKit Go.Proofs
set_option maxHeartbeats 8000000
set_option maxRecDepth 20000
attribute [local irreducible] WalkL Walk
def longB (r : List Int) : Bool := decide ((r.length : Int) > 20)
def farRows (M : List (List Int)) : Bool := M.any longB || decide ((M.length : Int) > 20)
theorem zf7 (M : List (List Int)) (hM : M.length < 2 ^ 30) : Fn Tryz.prog 7 [.sl (listRows M)] (.bool (farRows M)) := by
  unfold farRows
  obtain ⟨R, hR⟩ : ∃ R, R = (M.any longB || decide ((M.length : Int) > 20)) := ⟨_, rfl⟩
  rw [← hR]
  refine z21 19 Tryz.call7 Tryz.func7 rfl (by decide) fun J => ?_
  simp (maxSteps := 4000000) only [go_sem, St.start, Tryz.ntmps7, Tryz.results7]
  repeat (first | refine z14 ?_ | refine z9 ?_ | refine z7 ?_ | (refine z5 fun K hK => ?_; simp (maxSteps := 4000000) only [go_sem]; refine hK _ ?_; clear hK K) | refine z13 ?_ | refine z15 ?_ | refine z10 ?_ | refine z8 ?_ | refine z6 rfl ?_ | refine z12 ?_ | refine z3 ?_ | refine z16 ?_ | refine z11 ?_ | refine z4 ?_)
  refine z22 (fun (i : Nat) => [(3, .d (.i (i : Int)))]) (fun _ => []) (fun i => i ≤ M.length ∧ R = ((M.drop i).any longB || decide ((M.length : Int) > 20))) (fun i => M.length - i) 0 ?_ ⟨Nat.zero_le _, hR⟩ ?_
  · simp (maxSteps := 4000000) only [go_sem]
    refine z19 [] ?_ ?_ rfl rfl <;> simp [lessT, lessM, lessB, AV.less]
  · rintro i ⟨hi, hall⟩
    simp (maxSteps := 4000000) only [go_sem]
    repeat (first | refine z14 ?_ | refine z9 ?_ | refine z7 ?_ | (refine z5 fun K hK => ?_; simp (maxSteps := 4000000) only [go_sem, z39]; refine hK _ ?_; clear hK K) | refine z13 ?_ | refine z15 ?_ | refine z10 ?_ | refine z8 ?_ | refine z6 rfl ?_ | refine z12 ?_ | refine z3 ?_ | refine z16 ?_ | refine z11 ?_ | refine z4 ?_)
    refine z20 rfl (fun hb => ?_) (fun hb => ?_)
    · have hlt : i < M.length := by simpa using hb
      have hw : IntKind.i64.wrap ((i : Int) + 1) = ((i + 1 : Nat) : Int) := by rw [z23 (by omega)]; simp
      obtain ⟨r, hr⟩ : ∃ r, M[i]? = some r := ⟨_, List.getElem?_eq_getElem hlt⟩
      have g1 := z62 hr
      have hni : ¬ ((i : Int) < 0) := by omega
      rw [z30 hr, List.any_cons] at hall
      cases q : longB r
      · rw [q, Bool.false_or] at hall
        rw [longB] at q
        repeat (first | refine z18 rfl ?_ | refine z17 rfl ?_ | refine z14 ?_ | refine z9 ?_ | refine z7 ?_ | (refine z5 fun K hK => ?_; simp (maxSteps := 4000000) only [go_sem, g1, hni, q, hw]; refine hK _ ?_; clear hK K) | refine z13 ?_ | refine z15 ?_ | refine z10 ?_ | refine z8 ?_ | refine z6 rfl ?_ | refine z12 ?_ | refine z3 ?_ | refine z16 ?_ | refine z11 ?_ | refine z4 ?_)
        refine ⟨rfl, i + 1, ?_, ⟨hlt, hall⟩, by omega⟩
        refine z19 [] ?_ ?_ rfl rfl <;> simp [lessT, lessM, lessB, AV.less]
      · rw [q, Bool.true_or, Bool.true_or] at hall
        rw [longB] at q
        subst hall
        repeat (first | refine z18 rfl ?_ | refine z17 rfl ?_ | refine z14 ?_ | refine z9 ?_ | refine z7 ?_ | (refine z5 fun K hK => ?_; simp (maxSteps := 4000000) only [go_sem, g1, hni, q]; refine hK _ ?_; clear hK K) | refine z13 ?_ | refine z15 ?_ | refine z10 ?_ | refine z8 ?_ | refine z6 rfl ?_ | refine z12 ?_ | refine z3 ?_ | refine z16 ?_ | refine z11 ?_ | refine z4 ?_)
        simp (maxSteps := 4000000) only [go_sem]
    · have he : i = M.length := by (have : ¬ i < M.length := by simpa using hb); omega
      subst he
      rw [List.drop_length, List.any_nil, Bool.false_or] at hall
      subst hall
      repeat (first | refine z14 ?_ | refine z9 ?_ | refine z7 ?_ | (refine z5 fun K hK => ?_; simp (maxSteps := 4000000) only [go_sem, z39]; refine hK _ ?_; clear hK K) | refine z13 ?_ | refine z15 ?_ | refine z10 ?_ | refine z8 ?_ | refine z6 rfl ?_ | refine z12 ?_ | refine z3 ?_ | refine z16 ?_ | refine z11 ?_ | refine z4 ?_)
      simp (maxSteps := 4000000) only [go_sem]
def longD (d : List Diners) : Bool := decide ((d.length : Int) > 20)
def longN (d : Dish) : Bool := decide ((d.needs.length : Int) > 20)
def maxTo (l : List (List Diners)) : Nat → Int
  | 0 => 0
  | i + 1 => max (maxTo l i) ((l.getD i []).length : Int)
def farK1 (k : Kitchen) : Bool := decide ((k.allerg.length : Int) > 20) || (decide ((k.batches.length : Int) > 20) || (decide ((k.dishes.length : Int) > 20) || decide ((k.days.length : Int) > 20)))
def farK2 (k : Kitchen) : Bool := (kitE k == 0) && (decide ((k.dishes.length : Int) > 3) || (decide ((k.days.length : Int) > 3) || decide (maxTo k.days k.days.length > 2)))
def far7 (k : Kitchen) : Bool := farK1 k || (k.days.any longD || (k.dishes.any longN || farK2 k))
theorem zf6 (k : Kitchen) (hs : KitSmall k) : Fn Tryz.prog 6 [.agg k.cells] (.bool (far7 k)) := by
  have h44 := zf25 k hs
  have a1 := hs.allerg
  have a2 := hs.batches
  have a3 := hs.dishes
  have a5 := hs.days
  obtain ⟨R, hR⟩ : ∃ R, R = far7 k := ⟨_, rfl⟩
  rw [← hR]
  rw [far7] at hR
  rw [Kitchen.cells] at h44
  refine z21 84 Tryz.call6 Tryz.func6 rfl (by decide) fun J => ?_
  simp (maxSteps := 4000000) only [go_sem, St.start, Tryz.ntmps6, Tryz.results6, Kitchen.cells]
  repeat (first | refine z14 ?_ | refine z9 ?_ | refine z7 ?_ | (refine z5 fun K hK => ?_; simp (maxSteps := 4000000) only [go_sem]; refine hK _ ?_; clear hK K) | refine z13 ?_ | refine z15 ?_ | refine z10 ?_ | refine z8 ?_ | refine z6 rfl ?_ | refine z12 ?_ | refine z3 ?_ | refine z16 ?_ | refine z11 ?_ | refine z4 ?_)
  refine z40 [(27, .d (.bool (farK1 k)))] [] ?_ ?_
  · refine z5 fun K hK => ?_
    simp (maxSteps := 4000000) only [go_sem]
    by_cases ho0 : (decide ((k.allerg.length : Int) > 20)) = true
    · simp (maxSteps := 4000000) only [go_sem, ho0]
      refine hK _ ?_
      clear hK K
      refine z13 ?_
      refine z4 ?_
      refine ⟨rfl, ?_⟩
      rw [show (farK1 k) = (true) from by simp [farK1, ho0]]
      simp (maxSteps := 4000000) only [go_sem]
      refine z19 [] ?_ ?_ rfl rfl <;> simp [lessT, lessM, lessB, AV.less]
    · simp (maxSteps := 4000000) only [go_sem, ho0]
      by_cases ho1 : (decide ((k.batches.length : Int) > 20)) = true
      · simp (maxSteps := 4000000) only [go_sem, ho0, ho1]
        refine hK _ ?_
        clear hK K
        refine z13 ?_
        refine z4 ?_
        refine ⟨rfl, ?_⟩
        rw [show (farK1 k) = (true) from by simp [farK1, ho0, ho1]]
        simp (maxSteps := 4000000) only [go_sem]
        refine z19 [] ?_ ?_ rfl rfl <;> simp [lessT, lessM, lessB, AV.less]
      · simp (maxSteps := 4000000) only [go_sem, ho0, ho1]
        by_cases ho2 : (decide ((k.dishes.length : Int) > 20)) = true
        · simp (maxSteps := 4000000) only [go_sem, ho0, ho1, ho2]
          refine hK _ ?_
          clear hK K
          refine z13 ?_
          refine z4 ?_
          refine ⟨rfl, ?_⟩
          rw [show (farK1 k) = (true) from by simp [farK1, ho0, ho1, ho2]]
          simp (maxSteps := 4000000) only [go_sem]
          refine z19 [] ?_ ?_ rfl rfl <;> simp [lessT, lessM, lessB, AV.less]
        · simp (maxSteps := 4000000) only [go_sem, ho0, ho1, ho2]
          refine hK _ ?_
          clear hK K
          refine z13 ?_
          refine z4 ?_
          refine ⟨rfl, ?_⟩
          rw [show (farK1 k) = (decide ((k.days.length : Int) > 20)) from by simp [farK1, ho0, ho1, ho2]]
          simp (maxSteps := 4000000) only [go_sem]
          refine z19 [] ?_ ?_ rfl rfl <;> simp [lessT, lessM, lessB, AV.less]
  simp (maxSteps := 4000000) only [go_sem]
  repeat (first | refine z14 ?_ | refine z9 ?_ | refine z7 ?_ | (refine z5 fun K hK => ?_; simp (maxSteps := 4000000) only [go_sem]; refine hK _ ?_; clear hK K) | refine z13 ?_ | refine z15 ?_ | refine z10 ?_ | refine z8 ?_ | refine z6 rfl ?_ | refine z12 ?_ | refine z3 ?_ | refine z16 ?_ | refine z11 ?_ | refine z4 ?_)
  refine z20 rfl (fun hc => ?_) (fun hc => ?_)
  · rw [hc, Bool.true_or] at hR
    subst hR
    rw [hc]
    repeat (first | refine z14 ?_ | refine z9 ?_ | refine z7 ?_ | (refine z5 fun K hK => ?_; simp (maxSteps := 4000000) only [go_sem]; refine hK _ ?_; clear hK K) | refine z13 ?_ | refine z15 ?_ | refine z10 ?_ | refine z8 ?_ | refine z6 rfl ?_ | refine z12 ?_ | refine z3 ?_ | refine z16 ?_ | refine z11 ?_ | refine z4 ?_)
    simp (maxSteps := 4000000) only [go_sem, if_true]
  · rw [hc, Bool.false_or] at hR
    rw [hc]
    repeat (first | refine z14 ?_ | refine z9 ?_ | refine z7 ?_ | (refine z5 fun K hK => ?_; simp (maxSteps := 4000000) only [go_sem]; refine hK _ ?_; clear hK K) | refine z13 ?_ | refine z15 ?_ | refine z10 ?_ | refine z8 ?_ | refine z6 rfl ?_ | refine z12 ?_ | refine z3 ?_ | refine z16 ?_ | refine z11 ?_ | refine z4 ?_)
    refine z22 (fun (i : Nat) => [(4, .d (.i (i : Int))), (3, .d (.i (maxTo k.days i)))]) (fun _ => []) (fun i => i ≤ k.days.length ∧ R = ((k.days.drop i).any longD || (k.dishes.any longN || farK2 k))) (fun i => k.days.length - i) 0 ?_ ⟨Nat.zero_le _, hR⟩ ?_
    · simp (maxSteps := 4000000) only [go_sem, maxTo]
      refine z19 [] ?_ ?_ rfl rfl <;> simp [lessT, lessM, lessB, AV.less]
    · rintro i ⟨hi, hall⟩
      have hmx : max (maxTo k.days i) ((k.days.getD i []).length : Int) = maxTo k.days (i + 1) := rfl
      obtain ⟨mi, hmi⟩ : ∃ m, m = maxTo k.days i := ⟨_, rfl⟩
      rw [← hmi] at hmx
      simp (maxSteps := 4000000) only [go_sem, ← hmi]
      repeat (first | refine z14 ?_ | refine z9 ?_ | refine z7 ?_ | (refine z5 fun K hK => ?_; simp (maxSteps := 4000000) only [go_sem]; refine hK _ ?_; clear hK K) | refine z13 ?_ | refine z15 ?_ | refine z10 ?_ | refine z8 ?_ | refine z6 rfl ?_ | refine z12 ?_ | refine z3 ?_ | refine z16 ?_ | refine z11 ?_ | refine z4 ?_)
      refine z20 rfl (fun hb => ?_) (fun hb => ?_)
      · have hlt : i < k.days.length := by simpa using hb
        have hw : IntKind.i64.wrap ((i : Int) + 1) = ((i + 1 : Nat) : Int) := by rw [z23 (by omega)]; simp
        obtain ⟨r, hr⟩ : ∃ r, k.days[i]? = some r := ⟨_, List.getElem?_eq_getElem hlt⟩
        have g1 := z77 hr
        have hni : ¬ ((i : Int) < 0) := by omega
        rw [List.getD, hr, Option.getD_some] at hmx
        rw [z30 hr, List.any_cons] at hall
        cases q : longD r
        · rw [q, Bool.false_or] at hall
          rw [longD] at q
          repeat (first | refine z18 rfl ?_ | refine z17 rfl ?_ | refine z14 ?_ | refine z9 ?_ | refine z7 ?_ | (refine z5 fun K hK => ?_; simp (maxSteps := 4000000) only [go_sem, g1, hni, q, hw, hmx]; refine hK _ ?_; clear hK K) | refine z13 ?_ | refine z15 ?_ | refine z10 ?_ | refine z8 ?_ | refine z6 rfl ?_ | refine z12 ?_ | refine z3 ?_ | refine z16 ?_ | refine z11 ?_ | refine z4 ?_)
          refine ⟨rfl, i + 1, ?_, ⟨hlt, hall⟩, by omega⟩
          refine z19 [] ?_ ?_ rfl rfl <;> simp [lessT, lessM, lessB, AV.less]
          all_goals first | done | rfl | trace_state
        · rw [q, Bool.true_or] at hall
          rw [longD] at q
          subst hall
          repeat (first | refine z18 rfl ?_ | refine z17 rfl ?_ | refine z14 ?_ | refine z9 ?_ | refine z7 ?_ | (refine z5 fun K hK => ?_; simp (maxSteps := 4000000) only [go_sem, g1, hni, q]; refine hK _ ?_; clear hK K) | refine z13 ?_ | refine z15 ?_ | refine z10 ?_ | refine z8 ?_ | refine z6 rfl ?_ | refine z12 ?_ | refine z3 ?_ | refine z16 ?_ | refine z11 ?_ | refine z4 ?_)
          simp (maxSteps := 4000000) only [go_sem]
      · have he : i = k.days.length := by (have : ¬ i < k.days.length := by simpa using hb); omega
        subst he
        rw [List.drop_length, List.any_nil, Bool.false_or] at hall
        repeat (first | refine z14 ?_ | refine z9 ?_ | refine z7 ?_ | (refine z5 fun K hK => ?_; simp (maxSteps := 4000000) only [go_sem]; refine hK _ ?_; clear hK K) | refine z13 ?_ | refine z15 ?_ | refine z10 ?_ | refine z8 ?_ | refine z6 rfl ?_ | refine z12 ?_ | refine z3 ?_ | refine z16 ?_ | refine z11 ?_ | refine z4 ?_)
        refine z22 (fun (j : Nat) => [(5, .d (.i (j : Int)))]) (fun _ => []) (fun j => j ≤ k.dishes.length ∧ R = ((k.dishes.drop j).any longN || farK2 k)) (fun j => k.dishes.length - j) 0 ?_ ⟨Nat.zero_le _, hall⟩ ?_
        · simp (maxSteps := 4000000) only [go_sem]
          refine z19 [] ?_ ?_ rfl rfl <;> simp [lessT, lessM, lessB, AV.less]
        · rintro j ⟨hj, hallj⟩
          simp (maxSteps := 4000000) only [go_sem]
          repeat (first | refine z14 ?_ | refine z9 ?_ | refine z7 ?_ | (refine z5 fun K hK => ?_; simp (maxSteps := 4000000) only [go_sem]; refine hK _ ?_; clear hK K) | refine z13 ?_ | refine z15 ?_ | refine z10 ?_ | refine z8 ?_ | refine z6 rfl ?_ | refine z12 ?_ | refine z3 ?_ | refine z16 ?_ | refine z11 ?_ | refine z4 ?_)
          refine z20 rfl (fun hb => ?_) (fun hb => ?_)
          · have hlt : j < k.dishes.length := by simpa using hb
            have hw : IntKind.i64.wrap ((j : Int) + 1) = ((j + 1 : Nat) : Int) := by rw [z23 (by omega)]; simp
            obtain ⟨r, hr⟩ : ∃ r, k.dishes[j]? = some r := ⟨_, List.getElem?_eq_getElem hlt⟩
            have g1 := z102 hr
            rw [Dish.row] at g1
            have hni : ¬ ((j : Int) < 0) := by omega
            rw [z30 hr, List.any_cons] at hallj
            cases q : longN r
            · rw [q, Bool.false_or] at hallj
              rw [longN] at q
              repeat (first | refine z18 rfl ?_ | refine z17 rfl ?_ | refine z14 ?_ | refine z9 ?_ | refine z7 ?_ | (refine z5 fun K hK => ?_; simp (maxSteps := 4000000) only [go_sem, g1, hni, q, hw]; refine hK _ ?_; clear hK K) | refine z13 ?_ | refine z15 ?_ | refine z10 ?_ | refine z8 ?_ | refine z6 rfl ?_ | refine z12 ?_ | refine z3 ?_ | refine z16 ?_ | refine z11 ?_ | refine z4 ?_)
              refine ⟨rfl, j + 1, ?_, ⟨hlt, hallj⟩, by omega⟩
              refine z19 [] ?_ ?_ rfl rfl <;> simp [lessT, lessM, lessB, AV.less]
            · rw [q, Bool.true_or] at hallj
              rw [longN] at q
              subst hallj
              repeat (first | refine z18 rfl ?_ | refine z17 rfl ?_ | refine z14 ?_ | refine z9 ?_ | refine z7 ?_ | (refine z5 fun K hK => ?_; simp (maxSteps := 4000000) only [go_sem, g1, hni, q]; refine hK _ ?_; clear hK K) | refine z13 ?_ | refine z15 ?_ | refine z10 ?_ | refine z8 ?_ | refine z6 rfl ?_ | refine z12 ?_ | refine z3 ?_ | refine z16 ?_ | refine z11 ?_ | refine z4 ?_)
              simp (maxSteps := 4000000) only [go_sem]
          · have he : j = k.dishes.length := by (have : ¬ j < k.dishes.length := by simpa using hb); omega
            subst he
            rw [List.drop_length, List.any_nil, Bool.false_or, farK2, ← hmi] at hallj
            obtain ⟨e, he⟩ : ∃ e, e = kitE k := ⟨_, rfl⟩
            rw [← he] at h44 hallj
            cases q0 : (e == 0)
            · rw [q0, Bool.false_and] at hallj
              subst hallj
              repeat (first | refine z18 rfl ?_ | refine z17 rfl ?_ | refine z14 ?_ | refine z9 ?_ | refine z7 ?_ | (refine z5 fun K hK => ?_; simp (maxSteps := 4000000) only [go_sem, q0]; (repeat (first | (refine ⟨_, .lent (hf := h44) (hd := rfl) (hr := rfl), ?_⟩; simp (maxSteps := 4000000) only [go_sem, q0]) | (refine ⟨_, .given (hf := h44) (hd := rfl) (ha := rfl), ?_⟩; simp (maxSteps := 4000000) only [go_sem, q0]))); refine hK _ ?_; clear hK K) | refine z13 ?_ | refine z15 ?_ | refine z10 ?_ | refine z8 ?_ | refine z6 rfl ?_ | refine z12 ?_ | refine z3 ?_ | refine z16 ?_ | refine z11 ?_ | refine z4 ?_)
              simp (maxSteps := 4000000) only [go_sem]
            · rw [q0, Bool.true_and] at hallj
              cases q1 : decide ((k.dishes.length : Int) > 3)
              · rw [q1, Bool.false_or] at hallj
                cases q2 : decide ((k.days.length : Int) > 3)
                · rw [q2, Bool.false_or] at hallj
                  subst hallj
                  repeat (first | refine z18 rfl ?_ | refine z17 rfl ?_ | refine z14 ?_ | refine z9 ?_ | refine z7 ?_ | (refine z5 fun K hK => ?_; simp (maxSteps := 4000000) only [go_sem, q0, q1, q2]; (repeat (first | (refine ⟨_, .lent (hf := h44) (hd := rfl) (hr := rfl), ?_⟩; simp (maxSteps := 4000000) only [go_sem, q0, q1, q2]) | (refine ⟨_, .given (hf := h44) (hd := rfl) (ha := rfl), ?_⟩; simp (maxSteps := 4000000) only [go_sem, q0, q1, q2]))); refine hK _ ?_; clear hK K) | refine z13 ?_ | refine z15 ?_ | refine z10 ?_ | refine z8 ?_ | refine z6 rfl ?_ | refine z12 ?_ | refine z3 ?_ | refine z16 ?_ | refine z11 ?_ | refine z4 ?_)
                  simp (maxSteps := 4000000) only [go_sem]
                · rw [q2, Bool.true_or] at hallj
                  subst hallj
                  repeat (first | refine z18 rfl ?_ | refine z17 rfl ?_ | refine z14 ?_ | refine z9 ?_ | refine z7 ?_ | (refine z5 fun K hK => ?_; simp (maxSteps := 4000000) only [go_sem, q0, q1, q2]; (repeat (first | (refine ⟨_, .lent (hf := h44) (hd := rfl) (hr := rfl), ?_⟩; simp (maxSteps := 4000000) only [go_sem, q0, q1, q2]) | (refine ⟨_, .given (hf := h44) (hd := rfl) (ha := rfl), ?_⟩; simp (maxSteps := 4000000) only [go_sem, q0, q1, q2]))); refine hK _ ?_; clear hK K) | refine z13 ?_ | refine z15 ?_ | refine z10 ?_ | refine z8 ?_ | refine z6 rfl ?_ | refine z12 ?_ | refine z3 ?_ | refine z16 ?_ | refine z11 ?_ | refine z4 ?_)
                  simp (maxSteps := 4000000) only [go_sem]
              · rw [q1, Bool.true_or] at hallj
                subst hallj
                repeat (first | refine z18 rfl ?_ | refine z17 rfl ?_ | refine z14 ?_ | refine z9 ?_ | refine z7 ?_ | (refine z5 fun K hK => ?_; simp (maxSteps := 4000000) only [go_sem, q0, q1]; (repeat (first | (refine ⟨_, .lent (hf := h44) (hd := rfl) (hr := rfl), ?_⟩; simp (maxSteps := 4000000) only [go_sem, q0, q1]) | (refine ⟨_, .given (hf := h44) (hd := rfl) (ha := rfl), ?_⟩; simp (maxSteps := 4000000) only [go_sem, q0, q1]))); refine hK _ ?_; clear hK K) | refine z13 ?_ | refine z15 ?_ | refine z10 ?_ | refine z8 ?_ | refine z6 rfl ?_ | refine z12 ?_ | refine z3 ?_ | refine z16 ?_ | refine z11 ?_ | refine z4 ?_)
                simp (maxSteps := 4000000) only [go_sem]
end Go.Ab
namespace Go.Ab
open Go.RowKit Go.Proofs
set_option maxHeartbeats 8000000
set_option maxRecDepth 20000
attribute [local irreducible] WalkL Walk
def longS (l : List Hour) : Bool := decide ((l.length : Int) > 50)
def farS1 (s : Supply) : Bool := decide ((s.carr.length : Int) > 20) || (decide ((s.seen.length : Int) > 22) || decide ((s.scen.length : Int) > 8))
def farSup (s : Supply) : Bool := farS1 s || (s.scen.any longS || ((foreF s.scen != 0) && far6 s))
theorem zf8 (s : Supply) (hs : SuppSmall s) : Fn Tryz.prog 8 [.agg s.cells] (.bool (farSup s)) := by
  have h81 := zf26 s.scen hs.fore
  have h11 := zf27 s hs
  have hsc := hs.fore.1
  obtain ⟨R, hR⟩ : ∃ R, R = farSup s := ⟨_, rfl⟩
  rw [← hR]
  rw [farSup] at hR
  rw [Supply.cells] at h11
  refine z21 46 Tryz.call8 Tryz.func8 rfl (by decide) fun J => ?_
  simp (maxSteps := 4000000) only [go_sem, St.start, Tryz.ntmps8, Tryz.results8, Supply.cells]
  repeat (first | refine z14 ?_ | refine z9 ?_ | refine z7 ?_ | (refine z5 fun K hK => ?_; simp (maxSteps := 4000000) only [go_sem]; refine hK _ ?_; clear hK K) | refine z13 ?_ | refine z15 ?_ | refine z10 ?_ | refine z8 ?_ | refine z6 rfl ?_ | refine z12 ?_ | refine z3 ?_ | refine z16 ?_ | refine z11 ?_ | refine z4 ?_)
  refine z40 [(20, .d (.bool (farS1 s)))] [] ?_ ?_
  · refine z5 fun K hK => ?_
    simp (maxSteps := 4000000) only [go_sem, z25, z57, z32]
    by_cases ho0 : (decide ((s.carr.length : Int) > 20)) = true
    · simp (maxSteps := 4000000) only [go_sem, z25, z57, z32, ho0]
      refine hK _ ?_
      clear hK K
      refine z13 ?_
      refine z4 ?_
      refine ⟨rfl, ?_⟩
      rw [show (farS1 s) = (true) from by simp [farS1, ho0]]
      simp (maxSteps := 4000000) only [go_sem]
      refine z19 [] ?_ ?_ rfl rfl <;> simp [lessT, lessM, lessB, AV.less]
    · simp (maxSteps := 4000000) only [go_sem, z25, z57, z32, ho0]
      by_cases ho1 : (decide ((s.seen.length : Int) > 22)) = true
      · simp (maxSteps := 4000000) only [go_sem, z25, z57, z32, ho0, ho1]
        refine hK _ ?_
        clear hK K
        refine z13 ?_
        refine z4 ?_
        refine ⟨rfl, ?_⟩
        rw [show (farS1 s) = (true) from by simp [farS1, ho0, ho1]]
        simp (maxSteps := 4000000) only [go_sem]
        refine z19 [] ?_ ?_ rfl rfl <;> simp [lessT, lessM, lessB, AV.less]
      · simp (maxSteps := 4000000) only [go_sem, z25, z57, z32, ho0, ho1]
        refine hK _ ?_
        clear hK K
        refine z13 ?_
        refine z4 ?_
        refine ⟨rfl, ?_⟩
        rw [show (farS1 s) = (decide ((s.scen.length : Int) > 8)) from by simp [farS1, ho0, ho1]]
        simp (maxSteps := 4000000) only [go_sem]
        refine z19 [] ?_ ?_ rfl rfl <;> simp [lessT, lessM, lessB, AV.less]
  simp (maxSteps := 4000000) only [go_sem]
  repeat (first | refine z14 ?_ | refine z9 ?_ | refine z7 ?_ | (refine z5 fun K hK => ?_; simp (maxSteps := 4000000) only [go_sem]; refine hK _ ?_; clear hK K) | refine z13 ?_ | refine z15 ?_ | refine z10 ?_ | refine z8 ?_ | refine z6 rfl ?_ | refine z12 ?_ | refine z3 ?_ | refine z16 ?_ | refine z11 ?_ | refine z4 ?_)
  refine z20 rfl (fun hc => ?_) (fun hc => ?_)
  · rw [hc, Bool.true_or] at hR
    subst hR
    rw [hc]
    repeat (first | refine z14 ?_ | refine z9 ?_ | refine z7 ?_ | (refine z5 fun K hK => ?_; simp (maxSteps := 4000000) only [go_sem]; refine hK _ ?_; clear hK K) | refine z13 ?_ | refine z15 ?_ | refine z10 ?_ | refine z8 ?_ | refine z6 rfl ?_ | refine z12 ?_ | refine z3 ?_ | refine z16 ?_ | refine z11 ?_ | refine z4 ?_)
    simp (maxSteps := 4000000) only [go_sem, if_true]
  · rw [hc, Bool.false_or] at hR
    rw [hc]
    repeat (first | refine z14 ?_ | refine z9 ?_ | refine z7 ?_ | (refine z5 fun K hK => ?_; simp (maxSteps := 4000000) only [go_sem]; refine hK _ ?_; clear hK K) | refine z13 ?_ | refine z15 ?_ | refine z10 ?_ | refine z8 ?_ | refine z6 rfl ?_ | refine z12 ?_ | refine z3 ?_ | refine z16 ?_ | refine z11 ?_ | refine z4 ?_)
    refine z22 (fun (i : Nat) => [(3, .d (.i (i : Int)))]) (fun _ => []) (fun i => i ≤ s.scen.length ∧ R = ((s.scen.drop i).any longS || ((foreF s.scen != 0) && far6 s))) (fun i => s.scen.length - i) 0 ?_ ⟨Nat.zero_le _, hR⟩ ?_
    · simp (maxSteps := 4000000) only [go_sem]
      refine z19 [] ?_ ?_ rfl rfl <;> simp [lessT, lessM, lessB, AV.less]
    · rintro i ⟨hi, hall⟩
      simp (maxSteps := 4000000) only [go_sem]
      repeat (first | refine z14 ?_ | refine z9 ?_ | refine z7 ?_ | (refine z5 fun K hK => ?_; simp (maxSteps := 4000000) only [go_sem, z32]; refine hK _ ?_; clear hK K) | refine z13 ?_ | refine z15 ?_ | refine z10 ?_ | refine z8 ?_ | refine z6 rfl ?_ | refine z12 ?_ | refine z3 ?_ | refine z16 ?_ | refine z11 ?_ | refine z4 ?_)
      refine z20 rfl (fun hb => ?_) (fun hb => ?_)
      · have hlt : i < s.scen.length := by simpa using hb
        have hw : IntKind.i64.wrap ((i : Int) + 1) = ((i + 1 : Nat) : Int) := by rw [z23 (by omega)]; simp
        obtain ⟨r, hr⟩ : ∃ r, s.scen[i]? = some r := ⟨_, List.getElem?_eq_getElem hlt⟩
        have g1 : (scenRows s.scen)[i]? = some [.sl (hourRows r)] := by simp [scenRows, hr]
        have hni : ¬ ((i : Int) < 0) := by omega
        have hll : (hourRows r).length = r.length := by simp [hourRows]
        rw [z30 hr, List.any_cons] at hall
        cases q : longS r
        · rw [q, Bool.false_or] at hall
          rw [longS] at q
          repeat (first | refine z18 rfl ?_ | refine z17 rfl ?_ | refine z14 ?_ | refine z9 ?_ | refine z7 ?_ | (refine z5 fun K hK => ?_; simp (maxSteps := 4000000) only [go_sem, g1, hni, hll, q, hw]; refine hK _ ?_; clear hK K) | refine z13 ?_ | refine z15 ?_ | refine z10 ?_ | refine z8 ?_ | refine z6 rfl ?_ | refine z12 ?_ | refine z3 ?_ | refine z16 ?_ | refine z11 ?_ | refine z4 ?_)
          refine ⟨rfl, i + 1, ?_, ⟨hlt, hall⟩, by omega⟩
          refine z19 [] ?_ ?_ rfl rfl <;> simp [lessT, lessM, lessB, AV.less]
        · rw [q, Bool.true_or] at hall
          rw [longS] at q
          subst hall
          repeat (first | refine z18 rfl ?_ | refine z17 rfl ?_ | refine z14 ?_ | refine z9 ?_ | refine z7 ?_ | (refine z5 fun K hK => ?_; simp (maxSteps := 4000000) only [go_sem, g1, hni, hll, q]; refine hK _ ?_; clear hK K) | refine z13 ?_ | refine z15 ?_ | refine z10 ?_ | refine z8 ?_ | refine z6 rfl ?_ | refine z12 ?_ | refine z3 ?_ | refine z16 ?_ | refine z11 ?_ | refine z4 ?_)
          simp (maxSteps := 4000000) only [go_sem]
      · have he : i = s.scen.length := by (have : ¬ i < s.scen.length := by simpa using hb); omega
        subst he
        rw [List.drop_length, List.any_nil, Bool.false_or] at hall
        cases q0 : (foreF s.scen != 0)
        · rw [q0, Bool.false_and] at hall
          subst hall
          repeat (first | refine z18 rfl ?_ | refine z17 rfl ?_ | refine z14 ?_ | refine z9 ?_ | refine z7 ?_ | (refine z5 fun K hK => ?_; simp (maxSteps := 4000000) only [go_sem, q0]; (repeat (first | (refine ⟨_, .lent (hf := h81) (hd := rfl) (hr := rfl), ?_⟩; simp (maxSteps := 4000000) only [go_sem, q0]) | (refine ⟨_, .given (hf := h81) (hd := rfl) (ha := rfl), ?_⟩; simp (maxSteps := 4000000) only [go_sem, q0]))); refine hK _ ?_; clear hK K) | refine z13 ?_ | refine z15 ?_ | refine z10 ?_ | refine z8 ?_ | refine z6 rfl ?_ | refine z12 ?_ | refine z3 ?_ | refine z16 ?_ | refine z11 ?_ | refine z4 ?_)
          simp (maxSteps := 4000000) only [go_sem]
        · rw [q0, Bool.true_and] at hall
          subst hall
          repeat (first | refine z18 rfl ?_ | refine z17 rfl ?_ | refine z14 ?_ | refine z9 ?_ | refine z7 ?_ | (refine z5 fun K hK => ?_; simp (maxSteps := 4000000) only [go_sem, q0]; (repeat (first | (refine ⟨_, .lent (hf := h81) (hd := rfl) (hr := rfl), ?_⟩; simp (maxSteps := 4000000) only [go_sem, q0]) | (refine ⟨_, .lent (hf := h11) (hd := rfl) (hr := rfl), ?_⟩; simp (maxSteps := 4000000) only [go_sem, q0]) | (refine ⟨_, .given (hf := h81) (hd := rfl) (ha := rfl), ?_⟩; simp (maxSteps := 4000000) only [go_sem, q0]) | (refine ⟨_, .given (hf := h11) (hd := rfl) (ha := rfl), ?_⟩; simp (maxSteps := 4000000) only [go_sem, q0]))); refine hK _ ?_; clear hK K) | refine z13 ?_ | refine z15 ?_ | refine z10 ?_ | refine z8 ?_ | refine z6 rfl ?_ | refine z12 ?_ | refine z3 ?_ | refine z16 ?_ | refine z11 ?_ | refine z4 ?_)
          simp (maxSteps := 4000000) only [go_sem]
end Go.Ab
namespace Go.Ab
open Go.RowKit Go.Proofs
set_option maxHeartbeats 8000000
theorem next_code {s : Supply} {c n : Int} (h1 : suppE s = 0) (hz : (nextP s c n).2.2 = 0) :
    askB s c n = true ∧ limE (s.carr.getD c.toNat ⟨0, 0, 0, ⟨0, 0, ⟨0, 0⟩⟩⟩).lim = 0 ∧ withinB n 1 48 = true ∧ (nextP s c n).1 = (nextW s c n).2.1 ∧ 0 ≤ (nextW s c n).2.1 := by
  unfold nextP at hz ⊢
  unfold openS6 at hz ⊢
  rw [if_pos h1] at hz ⊢
  cases hask : askB s c n with
  | false => rw [hask] at hz; simp at hz
  | true =>
    rw [hask] at hz
    simp only [if_true] at hz ⊢
    by_cases hne : nextE s c n = 0
    · rw [if_pos hne]
      refine ⟨trivial, ?_⟩
      unfold nextE at hne
      split at hne
      · cases hne
      · rename_i hn
        have hneg : ¬ (nextW s c n).2.1 < 0 := fun h => hn ⟨hne, h⟩
        have hw : (nextW s c n).2.2 = 0 := hne
        rw [nextW] at hw
        rw [windowF] at hw
        split at hw
        · rename_i hlk
          obtain ⟨_, _, _, l1, l2⟩ := z152 hlk
          exact ⟨l1, l2, rfl, by omega⟩
        · rename_i hlk
          exact absurd hw hlk
    · rw [if_neg hne] at hz
      exact absurd hz hne
end Go.Ab
namespace Go.Ab
open Go.RowKit Go.Proofs
set_option maxHeartbeats 16000000
set_option maxRecDepth 20000
attribute [local irreducible] WalkL Walk
def badFc (k : Kitchen) (M : List (List Int)) (s : Supply) (o : Sight) : Bool := far7 k || (farRows M || (farSup s || (openK k M != 0 || (suppE s != 0 || suppE (s.more o) != 0))))
def betterCells (s : Supply) (c n : Int) (o : Sight) : List DV := [.sl (scenRows s.scen), .sl (sightRows s.seen), .i s.stock, .i s.reserve, .i s.room, .i s.use.lo, .i s.use.hi, .sl (carrRows s.carr), .i c, .i n, .i o.hour, .i o.sky.wind, .i o.sky.rain, .i o.sky.temp]
end Go.Ab
namespace Go.Ab
set_option maxHeartbeats 8000000
theorem z146 {L B : List Nat} {i : Nat} (h : i < L.length) : (L ++ B).getD i 0 = L.getD i 0 := by
  rw [List.getD, List.getD, List.getElem?_append_left h]
theorem getD_mem {L : List Nat} {i : Nat} (h : i < L.length) : L.getD i 0 ∈ L := by
  rw [List.getD, List.getElem?_eq_getElem h]
  exact List.getElem_mem _
theorem swapN_app (L B : List Nat) (j : Nat) (h : j + 1 < L.length) : swapN (L ++ B) j = swapN L j ++ B := by
  rw [swapN, z146 (by omega), z146 h, List.set_append_left _ _ h, List.set_append_left _ _ (by rw [List.length_set]; omega)]
  rfl
theorem sinkN_app (f : Nat → Int) (B : List Nat) : ∀ (j : Nat) (L : List Nat), j < L.length → sinkN f (L ++ B) j = sinkN f L j ++ B
  | 0, _, _ => rfl
  | j + 1, L, h => by
    rw [sinkN, sinkN, z146 (i := j + 1) h, z146 (i := j) (by omega)]
    split
    · rw [swapN_app _ _ _ h, sinkN_app f B j _ (by rw [z136]; omega)]
    · rfl
theorem insN_app (f : Nat → Int) (L B : List Nat) : ∀ i, i < L.length ∨ i = 0 → insN f (L ++ B) i = insN f L i ++ B
  | 0, _ => rfl
  | i + 1, h => by rw [insN, insN, insN_app f L B i (by omega), sinkN_app f B (i + 1) _ (by rw [z122]; omega)]
theorem insN_last (f : Nat → Int) (L : List Nat) (x : Nat) (hx : ∀ y ∈ L, f y ≤ f x) : insN f (L ++ [x]) L.length = insN f L (L.length - 1) ++ [x] := by
  cases hm : L.length with
  | zero =>
    have : L = [] := List.eq_nil_of_length_eq_zero hm
    subst this
    rfl
  | succ m =>
    rw [insN, insN_app f L [x] m (by omega), Nat.add_sub_cancel]
    have hl : (insN f L m).length = m + 1 := by rw [z122, hm]
    have g1 : (insN f L m ++ [x]).getD (m + 1) 0 = x := by rw [List.getD, List.getElem?_append_right (by omega), hl]; simp
    have g2 : (insN f L m ++ [x]).getD m 0 = (insN f L m).getD m 0 := z146 (by omega)
    have g3 : (insN f L m).getD m 0 ∈ L := z181 f L m (by omega) _ (getD_mem (by omega))
    rw [sinkN, g1, g2, if_neg (by have := hx _ g3; omega)]
theorem insN_apps (f : Nat → Int) (L : List Nat) (n : Nat) (hf : ∀ y ∈ L, f y ≤ 30) : ∀ G, (∀ g < G, f (n + g) = 30) → insN f (L ++ (List.range G).map (n + ·)) (L.length + G - 1) = insN f L (L.length - 1) ++ (List.range G).map (n + ·)
  | 0, _ => by simp
  | G + 1, h => by
    have ih := insN_apps f L n hf G fun g hg => h g (by omega)
    have hl : (L ++ (List.range G).map (n + ·)).length = L.length + G := by simp
    have hx := insN_last f (L ++ (List.range G).map (n + ·)) (n + G) fun y hy => by
      rw [h G (by omega)]
      rcases List.mem_append.1 hy with hy | hy
      · exact hf y hy
      · obtain ⟨g, hg, rfl⟩ := List.mem_map.1 hy
        rw [h g (by have := List.mem_range.1 hg; omega)]
        exact Int.le_refl _
    rw [hl] at hx
    rw [List.range_succ, List.map_append, List.map_singleton, ← List.append_assoc, show L.length + (G + 1) - 1 = L.length + G by omega, hx, ih, List.append_assoc]
theorem z250 {f f' : Nat → Int} : ∀ (j : Nat) (L : List Nat), j < L.length → (∀ x ∈ L, f x = f' x) → sinkN f L j = sinkN f' L j
  | 0, _, _, _ => rfl
  | j + 1, L, h, hf => by
    rw [sinkN, sinkN, hf _ (getD_mem h), hf _ (getD_mem (by omega))]
    split
    · exact z250 j _ (by rw [z136]; omega) fun x hx => hf x (z246 h hx)
    · rfl
theorem insN_congr {f f' : Nat → Int} {L : List Nat} (hf : ∀ x ∈ L, f x = f' x) : ∀ i, i < L.length ∨ i = 0 → insN f L i = insN f' L i
  | 0, _ => rfl
  | i + 1, h => by
    rw [insN, insN, insN_congr hf i (by omega)]
    exact z250 (i + 1) _ (by rw [z122]; omega) fun x hx => hf x (z181 f' L i (by omega) x hx)
def boughtB (buy : List Int) : List Batch := (List.range buy.length).map fun (g : Nat) => ⟨(g : Int), getI buy (g : Int), 30⟩
def moreK (k : Kitchen) (buy : List Int) : Kitchen := { k with batches := k.batches ++ boughtB buy }
theorem bought_len (buy : List Int) : (boughtB buy).length = buy.length := by simp [boughtB]
theorem more_len (k : Kitchen) (buy : List Int) : (moreK k buy).batches.length = k.batches.length + buy.length := by simp [moreK, bought_len]
theorem z230 {k : Kitchen} {buy : List Int} {i : Nat} (h : i < k.batches.length) : batAt (moreK k buy) i = batAt k i := by
  rw [batAt, batAt, List.getD, List.getD, moreK, List.getElem?_append_left h]
theorem z284 {k : Kitchen} {buy : List Int} {g : Nat} (h : g < buy.length) : batAt (moreK k buy) (k.batches.length + g) = ⟨(g : Int), getI buy (g : Int), 30⟩ := by
  rw [batAt, List.getD, moreK]
  dsimp only
  rw [List.getElem?_append_right (by omega), Nat.add_sub_cancel_left, boughtB, List.getElem?_map, List.getElem?_range h]
  rfl
theorem bat_last {k : Kitchen} (h : ∀ b ∈ k.batches, b.last ≤ 30) {i : Nat} (hi : i < k.batches.length) : (batAt k i).last ≤ 30 := by
  obtain ⟨b, hb⟩ : ∃ b, k.batches[i]? = some b := ⟨_, List.getElem?_eq_getElem hi⟩
  have e : batAt k i = b := by rw [batAt, List.getD, hb]; rfl
  rw [e]
  exact h b (List.mem_of_getElem? hb)
theorem ordK_more {k : Kitchen} (buy : List Int) (h : ∀ b ∈ k.batches, b.last ≤ 30) : ordK (moreK k buy) = ordK k ++ (List.range buy.length).map (k.batches.length + ·) := by
  have e := insN_apps (fun i => (batAt (moreK k buy) i).last) (List.range k.batches.length) k.batches.length (fun y hy => by
    have hy := List.mem_range.1 hy
    rw [z230 hy]
    exact bat_last h hy) buy.length (fun g hg => by rw [z284 hg])
  rw [List.length_range, ← List.range_add] at e
  rw [ordK, more_len, e, ordK]
  congr 1
  refine insN_congr (fun x hx => ?_) _ (by rw [List.length_range]; omega)
  rw [z230 (List.mem_range.1 hx)]
theorem getI_left {l r : List Int} {i : Nat} (h : i < l.length) : getI (l ++ r) (i : Int) = getI l (i : Int) := by
  rw [getI, getI, Int.toNat_natCast, List.getD, List.getD, List.getElem?_append_left h]
theorem getI_right {l r : List Int} {g : Nat} : getI (l ++ r) ((l.length + g : Nat) : Int) = getI r (g : Int) := by
  rw [getI, getI, Int.toNat_natCast, Int.toNat_natCast, List.getD, List.getD, List.getElem?_append_right (by omega), Nat.add_sub_cancel_left]
theorem clr_left {k : Kitchen} {buy : List Int} {day : Int} {l r : List Int} {w : Int} (hl : l.length = k.batches.length) : ∀ j, j ≤ k.batches.length →
    clrTo (moreK k buy) day (l ++ r) w j = ((clrTo k day l w j).1 ++ r, (clrTo k day l w j).2)
  | 0, _ => rfl
  | j + 1, h => by
    have hc := z55 k day l w j
    rw [clrTo, clrTo, clr_left hl j (by omega), z230 (by omega)]
    dsimp only
    split
    · rw [List.set_append_left _ _ (by omega), getI_left (by omega)]
    · rfl
theorem clr_more {k : Kitchen} {buy : List Int} {day : Int} {l r : List Int} {w : Int} (hl : l.length = k.batches.length) (hd : day ≤ 30) : ∀ g, g ≤ buy.length →
    clrTo (moreK k buy) day (l ++ r) w (k.batches.length + g) = ((clrTo k day l w k.batches.length).1 ++ r, (clrTo k day l w k.batches.length).2)
  | 0, _ => clr_left hl _ (Nat.le_refl _)
  | g + 1, h => by
    rw [← Nat.add_assoc, clrTo, z284 (by omega), if_neg (by dsimp only; omega)]
    exact clr_more hl hd g (by omega)
theorem step_left {k : Kitchen} {buy : List Int} {good : Nat} {l r : List Int} {m : Int} {i : Nat} (hl : l.length = k.batches.length) (hi : i < k.batches.length) :
    takeStep (moreK k buy) good (l ++ r, m) i = ((takeStep k good (l, m) i).1 ++ r, (takeStep k good (l, m) i).2) := by
  rw [takeStep, takeStep, z230 hi]
  dsimp only
  rw [getI_left (by omega)]
  split
  · rw [List.set_append_left _ _ (by omega)]
  · rfl
theorem step_len (k : Kitchen) (good : Nat) (a : List Int × Int) (i : Nat) : (takeStep k good a i).1.length = a.1.length := by
  rw [takeStep]
  split
  · simp
  · rfl
theorem fold_left {k : Kitchen} {buy : List Int} {good : Nat} {r : List Int} : ∀ (o : List Nat) (l : List Int) (m : Int), l.length = k.batches.length → (∀ x ∈ o, x < k.batches.length) →
    o.foldl (takeStep (moreK k buy) good) (l ++ r, m) = ((o.foldl (takeStep k good) (l, m)).1 ++ r, (o.foldl (takeStep k good) (l, m)).2)
  | [], _, _, _, _ => rfl
  | x :: o, l, m, hl, ho => by
    rw [List.foldl_cons, List.foldl_cons, step_left hl (ho x (by simp))]
    exact fold_left o _ _ (by rw [step_len]; exact hl) fun y hy => ho y (by simp [hy])
theorem fold_right {k : Kitchen} {buy : List Int} {good : Nat} {l r : List Int} {m : Int} (hl : l.length = k.batches.length) (hr : r.length = buy.length) : ∀ G, G ≤ buy.length →
    ((List.range G).map (k.batches.length + ·)).foldl (takeStep (moreK k buy) good) (l ++ r, m) =
      if good < G then (l ++ r.set good (getI r (good : Int) - min m (getI r (good : Int))), m - min m (getI r (good : Int))) else (l ++ r, m)
  | 0, _ => by rw [if_neg (by omega)]; rfl
  | G + 1, h => by
    rw [List.range_succ, List.map_append, List.map_singleton, List.foldl_append, fold_right hl hr G (by omega), List.foldl_cons, List.foldl_nil, takeStep, z284 (by omega)]
    dsimp only
    by_cases hlt : good < G
    · rw [if_pos hlt, if_pos (by omega : good < G + 1), if_neg (by omega)]
    · rw [if_neg hlt]
      by_cases he : good = G
      · subst he
        rw [if_pos rfl, if_pos (by omega), ← hl]
        dsimp only
        rw [getI_right, List.set_append_right _ _ (by omega), Nat.add_sub_cancel_left]
      · rw [if_neg (by omega), if_neg (by omega)]
theorem takeG_more {k : Kitchen} {buy : List Int} (h30 : ∀ b ∈ k.batches, b.last ≤ 30) {good : Nat} {l r : List Int} {need : Int} (hl : l.length = k.batches.length) (hr : r.length = buy.length) (hg : good < buy.length)
    (hs : (takeG k (ordK k) good l need).2 ≤ getI r (good : Int)) :
    takeG (moreK k buy) (ordK (moreK k buy)) good (l ++ r) need = ((takeG k (ordK k) good l need).1 ++ r.set good (getI r (good : Int) - (takeG k (ordK k) good l need).2), 0) := by
  have hlen : ∀ (o : List Nat) (a : List Int × Int), (o.foldl (takeStep k good) a).1.length = a.1.length := by
    intro o
    induction o with
    | nil => intro a; rfl
    | cons x o ih => intro a; rw [List.foldl_cons, ih, step_len]
  rw [takeG, ordK_more buy h30, List.foldl_append, fold_left (ordK k) l need hl (fun x hx => z176 hx)]
  rw [fold_right (by rw [hlen]; exact hl) hr buy.length (Nat.le_refl _), if_pos hg]
  change (takeG k (ordK k) good l need).2 ≤ _ at hs
  have e : min (takeG k (ordK k) good l need).2 (getI r (good : Int)) = (takeG k (ordK k) good l need).2 := Int.min_eq_left hs
  change ((takeG k (ordK k) good l need).1 ++ r.set good (getI r (good : Int) - min (takeG k (ordK k) good l need).2 (getI r (good : Int))), (takeG k (ordK k) good l need).2 - min (takeG k (ordK k) good l need).2 (getI r (good : Int))) = _
  rw [e, Int.sub_self]
end Go.Ab
namespace Go.Ab
set_option maxHeartbeats 8000000
def restL (buy b : List Int) : List Int := (List.range buy.length).map fun (i : Nat) => getI buy (i : Int) - getI b (i : Int)
theorem z175 (buy b : List Int) : (restL buy b).length = buy.length := by simp [restL]
theorem restL_at {buy b : List Int} {g : Nat} (h : g < buy.length) : getI (restL buy b) (g : Int) = getI buy (g : Int) - getI b (g : Int) := by
  rw [getI, Int.toNat_natCast, List.getD, restL, List.getElem?_map, List.getElem?_range h]
  rfl
theorem z123 {l : List Int} {g : Nat} {x : Int} (h : g < l.length) : getI (l.set g x) (g : Int) = x := by
  rw [getI, Int.toNat_natCast, List.getD, List.getElem?_set_self h]
  rfl
theorem z275 {l : List Int} {g i : Nat} {x : Int} (h : g ≠ i) : getI (l.set g x) (i : Int) = getI l (i : Int) := by
  rw [getI, getI, Int.toNat_natCast, List.getD, List.getD, List.getElem?_set_ne h]
theorem restL_set {buy b : List Int} {g : Nat} {m : Int} (h : g < buy.length) (hb : b.length = buy.length) : (restL buy b).set g (getI (restL buy b) (g : Int) - m) = restL buy (b.set g (getI b (g : Int) + m)) := by
  refine List.ext_getElem? fun i => ?_
  by_cases hi : i < buy.length
  · have h2 : (restL buy (b.set g (getI b (g : Int) + m)))[i]? = some (getI buy (i : Int) - getI (b.set g (getI b (g : Int) + m)) (i : Int)) := by
      rw [restL, List.getElem?_map, List.getElem?_range hi]
      rfl
    rw [h2, List.getElem?_set, z175]
    by_cases he : g = i
    · subst he
      rw [if_pos rfl, if_pos h, restL_at h, z123 (by omega)]
      congr 1
      omega
    · rw [if_neg he, z275 he, restL, List.getElem?_map, List.getElem?_range hi]
      rfl
  · rw [List.getElem?_eq_none (by rw [List.length_set, z175]; omega), List.getElem?_eq_none (by rw [z175]; omega)]
def LeL (b c : List Int) : Prop := ∀ i : Nat, getI b (i : Int) ≤ getI c (i : Int)
theorem LeL.refl (b : List Int) : LeL b b := fun _ => Int.le_refl _
theorem LeL.trans {a b c : List Int} (h : LeL a b) (h' : LeL b c) : LeL a c := fun i => Int.le_trans (h i) (h' i)
theorem LeL.set {b : List Int} {g : Nat} {m : Int} (hm : 0 ≤ m) (hg : g < b.length) : LeL b (b.set g (getI b (g : Int) + m)) := fun i => by
  by_cases he : g = i
  · subst he
    rw [z123 hg]
    omega
  · rw [z275 he]
    exact Int.le_refl _
section
variable {k : Kitchen} {needs C b : List Int} {B : Int} (hC : AmtOk C) (hb : BuyOk B b) (hB : 0 ≤ B) (hn : ∀ x ∈ needs, 0 ≤ x ∧ x ≤ 2 ^ 40)
include hC hb hB hn
theorem lack_nonneg (g : Nat) : 0 ≤ (takeG k (ordK k) g (ordG k (ordK k) needs (C, b) g).1 (getI needs (g : Int))).2 := by
  obtain ⟨h1, _⟩ := z256 (k := k) (o := ordK k) (a := (C, b)) hC hb hB hn g
  have hng : 0 ≤ getI needs (g : Int) ∧ getI needs (g : Int) ≤ 2 ^ 40 := z124 hn (by decide) _
  exact (z223 (k := k) (good := g) (ordK k) (a := ((ordG k (ordK k) needs (C, b) g).1, getI needs (g : Int))) h1 hng.1).2.2.1
theorem ordG_mono {g g' : Nat} (h : g ≤ g') (hg : g' ≤ b.length) : LeL (ordG k (ordK k) needs (C, b) g).2 (ordG k (ordK k) needs (C, b) g').2 := by
  induction h with
  | refl => exact LeL.refl _
  | @step g' h ih =>
    refine (ih (by omega)).trans ?_
    have hl := (z256 (k := k) (o := ordK k) (a := (C, b)) hC hb hB hn g').2.2.2.1
    exact LeL.set (lack_nonneg hC hb hB hn g') (by rw [hl]; exact (by omega : g' < b.length))
theorem take_more {buy : List Int} (h30 : ∀ x ∈ k.batches, x.last ≤ 30) (hl : C.length = k.batches.length) (hbl : b.length = buy.length) (hle : LeL (ordG k (ordK k) needs (C, b) buy.length).2 buy) (g : Nat) (hg : g ≤ buy.length) :
    takeTo (moreK k buy) (ordK (moreK k buy)) needs (C ++ restL buy b) g = some ((ordG k (ordK k) needs (C, b) g).1 ++ restL buy (ordG k (ordK k) needs (C, b) g).2) := by
  induction g with
  | zero => rfl
  | succ g ih =>
    have ih := ih (by omega)
    obtain ⟨_, h2, _, h4, _⟩ := z256 (k := k) (o := ordK k) (a := (C, b)) hC hb hB hn g
    dsimp only at h2 h4
    have hm := ordG_mono (k := k) hC hb hB hn (g := g + 1) (g' := buy.length) (by omega) (by omega)
    have e1 : (ordG k (ordK k) needs (C, b) (g + 1)).2 = (ordG k (ordK k) needs (C, b) g).2.set g (getI (ordG k (ordK k) needs (C, b) g).2 (g : Int) + (takeG k (ordK k) g (ordG k (ordK k) needs (C, b) g).1 (getI needs (g : Int))).2) := rfl
    have hs : (takeG k (ordK k) g (ordG k (ordK k) needs (C, b) g).1 (getI needs (g : Int))).2 ≤ getI (restL buy (ordG k (ordK k) needs (C, b) g).2) (g : Int) := by
      have h5 := Int.le_trans (hm g) (hle g)
      rw [e1, z123 (by omega)] at h5
      rw [restL_at (by omega)]
      omega
    have ht := takeG_more (buy := buy) h30 (good := g) (need := getI needs (g : Int)) (l := (ordG k (ordK k) needs (C, b) g).1) (r := restL buy (ordG k (ordK k) needs (C, b) g).2) (by omega) (z175 _ _) (by omega) hs
    rw [takeTo, ih]
    dsimp only
    rw [ht]
    dsimp only
    rw [if_neg (by decide), restL_set (by omega) (by omega)]
    rfl
end
end Go.Ab
namespace Go.Ab
set_option maxHeartbeats 8000000
theorem getI_zeros (n : Nat) (i : Int) : getI (List.replicate n 0) i = 0 := by
  rw [getI, List.getD, List.getElem?_replicate]
  split <;> rfl
theorem amt_more (k : Kitchen) (buy : List Int) : amtK (moreK k buy) = amtK k ++ restL buy (List.replicate k.allerg.length 0) := by
  rw [amtK, moreK, List.map_append, amtK]
  congr 1
  rw [boughtB, List.map_map, restL]
  refine List.map_congr_left fun i _ => ?_
  rw [getI_zeros]
  simp
theorem need_buy {k : Kitchen} (hg : KitGood k) {M : List (List Int)} (hM : shapedB (menuB k) M k.days = true) {d : Nat} (hd : d < M.length) : ∀ x ∈ needD k M (hiC k) d, 0 ≤ x ∧ x ≤ 2 ^ 40 := by
  obtain ⟨r, hr⟩ : ∃ r, M[d]? = some r := ⟨_, List.getElem?_eq_getElem hd⟩
  obtain ⟨_, _, hdo⟩ := z280 hg hM (hi_ok hg) hr
  have hnd : needD k M (hiC k) d = needL k r (hiC k d) := by rw [needD, List.getD, hr]; rfl
  rw [hnd]
  exact z118 hg hdo
theorem needG_more {k : Kitchen} {buy : List Int} {ds : List Int} {cnt : Nat → Int} {good : Nat} : ∀ g, needG (moreK k buy) ds cnt good g = needG k ds cnt good g
  | 0 => rfl
  | g + 1 => by rw [needG, needG, needG_more g]; rfl
theorem needD_more {k : Kitchen} {buy : List Int} {M : List (List Int)} {cnt : Nat → Nat → Int} {d : Nat} : needD (moreK k buy) M cnt d = needD k M cnt d := by
  rw [needD, needD, needL, needL]
  exact List.map_congr_left fun x _ => needG_more _
theorem ordD_succ (k : Kitchen) (M : List (List Int)) (d : Nat) : ordD k M (d + 1) = ((ordG k (ordK k) (needD k M (hiC k) d) ((clrTo k (d : Int) (ordD k M d).1 (ordD k M d).2.2 k.batches.length).1, (ordD k M d).2.1) k.allerg.length).1,
      (ordG k (ordK k) (needD k M (hiC k) d) ((clrTo k (d : Int) (ordD k M d).1 (ordD k M d).2.2 k.batches.length).1, (ordD k M d).2.1) k.allerg.length).2,
      (clrTo k (d : Int) (ordD k M d).1 (ordD k M d).2.2 k.batches.length).2) := rfl
theorem ordD_mono {k : Kitchen} (hg : KitGood k) {M : List (List Int)} (hM : shapedB (menuB k) M k.days = true) {d d' : Nat} (h : d ≤ d') (hd : d' ≤ M.length) : LeL (ordD k M d).2.1 (ordD k M d').2.1 := by
  induction h with
  | refl => exact LeL.refl _
  | @step d' h ih =>
    refine (ih (by omega)).trans ?_
    obtain ⟨h1, h2, h3, h4, h5, h6⟩ := z257 hg hM d' (by omega)
    obtain ⟨c1, _⟩ := z80 (k := k) (day := (d' : Int)) (w := (ordD k M d').2.2) h1 k.batches.length
    have := ordG_mono (k := k) (needs := needD k M (hiC k) d') (C := (clrTo k (d' : Int) (ordD k M d').1 (ordD k M d').2.2 k.batches.length).1) (b := (ordD k M d').2.1) c1 h3 (by omega) (need_buy hg hM (by omega)) (g := 0) (g' := k.allerg.length) (Nat.zero_le _) (by omega)
    exact this
theorem run_more {k : Kitchen} (hg : KitGood k) {M : List (List Int)} (hM : shapedB (menuB k) M k.days = true) (d : Nat) (hd : d ≤ M.length) :
    runSt (moreK k (orderK k M)) M (hiC k) d = some ((ordD k M d).1 ++ restL (orderK k M) (ordD k M d).2.1, (ordD k M d).2.2) := by
  obtain ⟨_, _, _, hbl, _, _⟩ := z257 hg hM M.length (Nat.le_refl _)
  have h30 : ∀ b ∈ k.batches, b.last ≤ 30 := fun b hb => (hg.batch b hb).2.2.2
  have hMl := z74 hM
  have hdl := hg.days
  induction d with
  | zero => rw [runSt, amt_more]; rfl
  | succ d ih =>
    obtain ⟨h1, h2, h3, h4, h5, h6⟩ := z257 hg hM d (by omega)
    obtain ⟨c1, _⟩ := z80 (k := k) (day := (d : Int)) (w := (ordD k M d).2.2) h1 k.batches.length
    have c4 := z55 k (d : Int) (ordD k M d).1 (ordD k M d).2.2 k.batches.length
    have hmono : LeL (ordD k M (d + 1)).2.1 (orderK k M) := ordD_mono hg hM (by omega) (Nat.le_refl _)
    have hcl : clrD (moreK k (orderK k M)) d ((ordD k M d).1 ++ restL (orderK k M) (ordD k M d).2.1, (ordD k M d).2.2) = ((clrTo k (d : Int) (ordD k M d).1 (ordD k M d).2.2 k.batches.length).1 ++ restL (orderK k M) (ordD k M d).2.1, (clrTo k (d : Int) (ordD k M d).1 (ordD k M d).2.2 k.batches.length).2) := by
      rw [clrD, more_len]
      exact clr_more (by omega) (by omega) _ (Nat.le_refl _)
    have hbuy : (orderK k M).length = k.allerg.length := hbl
    have ht := take_more (k := k) (needs := needD k M (hiC k) d) (C := (clrTo k (d : Int) (ordD k M d).1 (ordD k M d).2.2 k.batches.length).1) (b := (ordD k M d).2.1) c1 h3 (by omega) (need_buy hg hM (by omega)) (buy := orderK k M) h30 (by omega) (by omega) (by rw [hbuy]; exact hmono) k.allerg.length (by omega)
    rw [runSt, ih (by omega)]
    dsimp only
    rw [hcl]
    dsimp only
    rw [needD_more]
    change Option.map _ (takeTo (moreK k (orderK k M)) (ordK (moreK k (orderK k M))) (needD k M (hiC k) d) _ k.allerg.length) = _
    rw [ht, ordD_succ]
    rfl
theorem most_more {k : Kitchen} (hg : KitGood k) {M : List (List Int)} (hM : shapedB (menuB k) M k.days = true) : mostK (moreK k (orderK k M)) M = k.days.length := by
  rw [← z74 hM]
  exact z265 (by
    change (runSt (moreK k (orderK k M)) M (hiC k) M.length).isSome = true
    rw [run_more hg hM M.length (Nat.le_refl _)]
    rfl)
theorem order_len {k : Kitchen} (hg : KitGood k) {M : List (List Int)} (hM : shapedB (menuB k) M k.days = true) : (orderK k M).length = k.allerg.length := (z257 hg hM M.length (Nat.le_refl _)).2.2.2.1
theorem open_more {k : Kitchen} {M : List (List Int)} {buy : List Int} (h : kitE (moreK k buy) = 0) (hM : shapedB (menuB k) M k.days = true) : openK (moreK k buy) M = 0 := by
  rw [openK, if_pos h]
  change (if shapedB (menuB k) M k.days then (0 : Int) else 71) = 0
  rw [hM]
  rfl
end Go.Ab
