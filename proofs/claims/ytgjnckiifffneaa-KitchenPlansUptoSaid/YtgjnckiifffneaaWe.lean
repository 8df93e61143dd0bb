/- A walk engine over abstract states, and the contracts of the functions that the statement reaches: part 5. -/
import Derived.Test.YtgjnckiifffneaaWd
set_option linter.unusedVariables false
set_option linter.unusedSimpArgs false
set_option linter.unnecessarySimpa false
namespace Go.Ab
open Go.RowKit Go.Proofs
set_option maxHeartbeats 16000000
set_option maxRecDepth 20000
attribute [local irreducible] WalkL Walk
theorem z350 (k : Kitchen) (day : Int) (l : List Int) (w : Int) : ∀ j, (clrTo k day l w j).1 = (clrTo k day l 0 j).1
  | 0 => rfl
  | j + 1 => by
    rw [clrTo, clrTo, z350 k day l w j]
    split
    · rfl
    · exact z350 k day l w j
def planL (k : Kitchen) : Nat → List Int × List (List Int)
  | 0 => (amtK k, [])
  | i + 1 => ((takeD k i (bestN k (k.days.length - i) (planL k i).1).2 (clr0 k i (planL k i).1).1).getD (clr0 k i (planL k i).1).1, (planL k i).2 ++ [(bestN k (k.days.length - i) (planL k i).1).2])
theorem z221 (k : Kitchen) (i : Nat) : planL k (i + 1) = ((takeD k i (bestN k (k.days.length - i) (planL k i).1).2 (clr0 k i (planL k i).1).1).getD (clr0 k i (planL k i).1).1, (planL k i).2 ++ [(bestN k (k.days.length - i) (planL k i).1).2]) := rfl
theorem z116 (k : Kitchen) : (amtK k).length = k.batches.length := by simp [amtK]
theorem z931 (k : Kitchen) (cnt : Nat → Int) : DayOk k [] cnt := ⟨by decide, fun g h => by simp at h, fun g h => by simp at h⟩
theorem z266 {k : Kitchen} (hg : KitGood k) {i : Nat} (hi : i < k.days.length) {l : List Int} (hl : l.length = k.batches.length) (ha : AmtOk l) : DayOk k (bestN k (k.days.length - i) l).2 (hiN k i) ∧ ((bestN k (k.days.length - i) l).2.length ≤ (k.days.getD i []).length) := by
  rcases (z502 hg (k.days.length - i) (by omega) l hl ha).2 with h | h | h
  · rw [h]; exact ⟨z931 k _, Nat.zero_le _⟩
  · omega
  · rw [show k.days.length - (k.days.length - i) = i by omega] at h
    obtain ⟨h1, h2⟩ := z252 hg hi h
    exact ⟨h2, by omega⟩
theorem z140 {k : Kitchen} (hg : KitGood k) : ∀ i, i ≤ k.days.length → AmtOk (planL k i).1 ∧ (planL k i).1.length = k.batches.length
  | 0, _ => ⟨z270 hg, z116 k⟩
  | i + 1, h => by
    obtain ⟨h1, h2⟩ := z140 hg i (by omega)
    obtain ⟨c1, c2, c3, c4⟩ := z264 hg (d := i) h2 h1
    rw [planL]
    dsimp only
    cases ht : takeD k i (bestN k (k.days.length - i) (planL k i).1).2 (clr0 k i (planL k i).1).1 with
    | none => exact ⟨c1, c2⟩
    | some l' =>
      obtain ⟨t1, t2⟩ := z214 hg (by omega) (z266 hg (by omega) h2 h1).1 c1 ht
      exact ⟨t1, by rw [Option.getD_some, t2, c2]⟩
theorem z59 (k : Kitchen) : ∀ i, (planL k i).2.length = i
  | 0 => rfl
  | i + 1 => by rw [planL]; simp [z59 k i]
def wasteK (k : Kitchen) : Int := (bestN k k.days.length (amtK k)).1
def planK (k : Kitchen) : List (List Int) × Int × Int :=
  if kitE k = 0 then (if wasteK k ≥ 1099511627776 then ([], 0, 3) else ((planL k k.days.length).2, wasteK k, 0)) else ([], 0, kitE k)
def lefts (k : Kitchen) (i : Nat) : List Int := (amtK k).take i ++ List.replicate (10 - i) 0
theorem z582 {k : Kitchen} {i : Nat} (h : i ≤ 10) (hi : i ≤ k.batches.length := by omega) : (lefts k i).length = 10 := by simp [lefts, amtK]; omega
theorem z909 {k : Kitchen} {i : Nat} (h : i < k.batches.length) (hb : k.batches.length ≤ 10) : (lefts k i).set i (batAt k i).amount = lefts k (i + 1) := by
  have e : (amtK k)[i]? = some (batAt k i).amount := by
    have := (List.getElem?_eq_getElem h)
    simp [amtK, batAt, this]
  have hl : ((amtK k).take i).length = i := by simp [amtK]; omega
  rw [lefts, lefts, List.take_add_one, e, List.set_append_right _ _ (by omega), hl, Nat.sub_self, show 10 - i = (10 - (i + 1)) + 1 by omega, List.replicate_succ]
  simp
theorem z910 (k : Kitchen) : lefts k k.batches.length = pad10 (amtK k) := by rw [lefts, pad10, z116, List.take_of_length_le (by rw [z116]; exact Nat.le_refl _)]
theorem z1040 {c p : List Int} (h : c.length ≤ 10) (hp : p.length = c.length) (x : AV) : (List.map (fun r => AV.d (r.getD 0 DV.any)) (List.take (min c.length 10) (intRows c)) ++ List.drop (1 + min c.length 10)
    (x :: (pad10 p).map fun n => AV.d (.i n))) = (pad10 c).map fun n => AV.d (.i n) := by
  rw [Nat.min_eq_left h, Nat.add_comm, List.drop_succ_cons, List.take_of_length_le (by simp [intRows]), ← List.map_drop, pad10, ← hp, List.drop_left', pad10, ← hp, List.map_append, intRows, List.map_map]
  · rfl
  · rfl
theorem z1109 (k : Kitchen) (hs : KitSmall k) : Fn Try.prog 15 [.agg k.cells] (.tup [.sl (listRows (planK k).1), .i (planK k).2.1, .i (planK k).2.2]) := by
  have h35 := z1103 k hs
  unfold planK
  by_cases h0 : ¬ kitE k = 0
  · have hb : (kitE k == 0) = false := by simpa using h0
    have hb2 : (kitE k != 0) = true := by simpa using h0
    rw [if_neg h0]
    rw [Kitchen.cells] at h35 ⊢
    dsimp only
    refine z18 86 Try.call15 Try.func15 rfl (by decide) fun J => ?_
    simp (maxSteps := 4000000) only [go_sem, St.start, Try.ntmps15, Try.results15]
    repeat (first | refine z12 rfl ?_ | refine z11 rfl ?_ | refine nx ?_ | (refine z10 fun K hK => ?_; simp (maxSteps := 4000000) only [go_sem, hb, hb2]; (repeat (first | (refine ⟨_, .lent (hf := h35) (hd := rfl) (hr := rfl), ?_⟩; simp (maxSteps := 4000000) only [go_sem, hb, hb2]) | (refine ⟨_, .given (hf := h35) (hd := rfl) (ha := rfl), ?_⟩; simp (maxSteps := 4000000) only [go_sem, hb, hb2]))); refine hK _ ?_; clear hK K))
    simp (maxSteps := 4000000) only [go_sem, listRows, List.map_nil]
  have h0 : kitE k = 0 := Decidable.not_not.1 h0
  rw [if_pos h0]
  have hg : KitGood k := z142 (by
    cases hb : badKit k with
    | false => rfl
    | true => rw [kitE, hb] at h0; cases h0)
  rw [h0] at h35
  have hbl := hg.batches
  have h10 := hg.days
  rw [Kitchen.cells] at h35 ⊢
  refine z18 86 Try.call15 Try.func15 rfl (by decide) fun J => ?_
  simp (maxSteps := 4000000) only [go_sem, St.start, Try.ntmps15, Try.results15]
  repeat (first | refine z12 rfl ?_ | refine z11 rfl ?_ | refine nx ?_ | (refine z10 fun K hK => ?_; simp (maxSteps := 4000000) only [go_sem]; (repeat (first | (refine ⟨_, .lent (hf := h35) (hd := rfl) (hr := rfl), ?_⟩; simp (maxSteps := 4000000) only [go_sem]) | (refine ⟨_, .given (hf := h35) (hd := rfl) (ha := rfl), ?_⟩; simp (maxSteps := 4000000) only [go_sem]))); refine hK _ ?_; clear hK K))
  refine z15 (fun (i : Nat) => [(26, .d (.i (i : Int)))]) (fun i => [(7, some (.box (.d (.i 0) :: (lefts k i).map fun n => .d (.i n))))]) (fun i => i ≤ k.batches.length) (fun i => k.batches.length - i) 0 ?_ (Nat.zero_le _) ?_
  · simp (maxSteps := 4000000) only [go_sem]
    refine z13 [] ?_ ?_ rfl rfl <;> simp [lessT, lessM, lessB, AV.less, lefts]
  · intro i hi
    have hll := z582 (k := k) (i := i) (by omega)
    simp (maxSteps := 4000000) only [go_sem]
    repeat (first | refine nx ?_ | (refine z10 fun K hK => ?_; simp (maxSteps := 4000000) only [go_sem]; refine hK _ ?_; clear hK K))
    refine z14 rfl (fun hb => ?_) (fun hb => ?_)
    · have hlt : i < k.batches.length := by simpa using hb
      have hw : IntKind.i64.wrap ((i : Int) + 1) = ((i + 1 : Nat) : Int) := by rw [z16 (by omega)]; simp
      have gb := z155 hlt
      rw [Batch.row] at gb
      have hni : ¬ ((i : Int) < 0) := by omega
      have hi10 : i < 10 := by omega
      have hst := z909 hlt hbl
      have hsp : List.take (1 + i) (AV.d (DV.i 0) :: (lefts k i).map fun n => AV.d (DV.i n)) ++ AV.d (DV.i (batAt k i).amount) :: List.drop (1 + i) ((lefts k i).map fun n => AV.d (DV.i n)) = AV.d (DV.i 0) :: (lefts k (i + 1)).map fun n => AV.d (DV.i n) := by
        rw [← hst, List.map_set, List.set_eq_take_append_cons_drop, if_pos (by simp; omega), Nat.add_comm, List.take_succ_cons]
        rfl
      have h1i : 1 + i ≤ 10 := by omega
      obtain ⟨y0, y1, y2, y3, y4, y5, y6, y7, y8, y9, hy⟩ := ten (z582 (k := k) (i := i + 1) (by omega))
      rw [hy] at hsp
      simp only [List.map_cons, List.map_nil] at hsp
      repeat (first | refine nx ?_ | (refine z10 fun K hK => ?_; simp (maxSteps := 4000000) only [go_sem, gb, hni, hi10, hll, h1i, hsp, hw]; refine hK _ ?_; clear hK K))
      refine ⟨rfl, i + 1, ?_, hlt, by omega⟩
      simp only [hy, List.map_cons, List.map_nil]
      refine z13 [] ?_ ?_ rfl rfl <;> simp [lessT, lessM, lessB, AV.less]
    · have he : i = k.batches.length := by (have : ¬ i < k.batches.length := by simpa using hb); omega
      subst he
      have hpd : (lefts k k.batches.length) = pad10 (amtK k) := z910 k
      obtain ⟨x0, x1, x2, x3, x4, x5, x6, x7, x8, x9, hx⟩ := ten (z127 (l := amtK k) (by rw [z116]; omega))
      rw [hpd, hx]
      have h40 := z1085 k hg k.days.length (Nat.le_refl _) (amtK k) ([], 0) (z116 k) (z270 hg)
      obtain ⟨g1, g2⟩ := z267 hg k.days.length (Nat.le_refl _) (amtK k) (z116 k) (z270 hg) ([], 0) (z919 k)
      obtain ⟨⟨wv, wm⟩, es, c, hbm⟩ : ∃ p es c, bestM k k.days.length (amtK k) ([], 0) = (p, es, c) := ⟨_, _, _, rfl⟩
      rw [hbm] at h40 g1 g2
      rw [hx, Nat.sub_self, plannerRow] at h40
      dsimp only [planR, List.map_cons, List.map_nil] at h40
      simp only [List.map_cons, List.map_nil] at h40 ⊢
      dsimp only at g1 g2
      have hwv : wasteK k = wv := by rw [wasteK, ← g1]
      rw [hwv]
      change FnG Try.prog 40 [_, .mp (some 11) [] 0] [0] _ _ _ at h40
      repeat refine nx ?_
      refine z10 fun K hK => ?_
      simp (maxSteps := 4000000) only [go_sem]
      refine ⟨_, .own (ns := [22, 20]) (news := []) (bads := [20]) (rd := []) (hf := h40) (hnd := by decide) (hl0 := rfl) (hl1 := rfl) (hm := by repeat (first | exact trivial | refine And.intro ?_ ?_ | rfl)) (hnew := rfl) (hla := rfl) (ha := z31 (by repeat (first | exact trivial | refine And.intro ?_ ?_ | exact z35 rfl | exact z28 rfl rfl))) (hrd := rfl) (hsh := z29 _) (hb := rfl) (hfl := .inl rfl), ?_⟩
      simp (maxSteps := 4000000) only [go_sem, List.map_cons, List.map_nil]
      refine hK _ ?_
      clear hK K
      by_cases hge : wv ≥ 1099511627776
      · have hd : decide (wv ≥ 1099511627776) = true := decide_eq_true hge
        rw [if_pos hge]
        repeat (first | refine z12 rfl ?_ | refine z11 rfl ?_ | refine nx ?_ | (refine z10 fun K hK => ?_; simp (maxSteps := 4000000) only [go_sem, hd]; refine hK _ ?_; clear hK K))
        simp (maxSteps := 4000000) only [go_sem, listRows, List.map_nil]
      have hd : decide (wv ≥ 1099511627776) = false := decide_eq_false hge
      rw [if_neg hge]
      have h41 : FnG Try.prog 41 [] [] (List.map AV.d [.agg k.cells]) _ _ := z1073 k hbl
      simp only [lardRow] at h41
      rw [Kitchen.cells] at h41
      dsimp only
      repeat (first | refine z12 rfl ?_ | refine z11 rfl ?_ | refine nx ?_ | (refine z10 fun K hK => ?_; simp (maxSteps := 4000000) only [go_sem, hd]; refine hK _ ?_; clear hK K))
      refine z10 fun K hK => ?_
      simp (maxSteps := 4000000) only [go_sem]
      refine ⟨_, .made (news := [47, 13, 14]) (hf := h41) (hd := rfl) (hn := by decide) (hl := rfl) (hnew := rfl) (hx := rfl), ?_⟩
      simp (maxSteps := 4000000) only [go_sem, List.map_cons, List.map_nil]
      refine hK _ ?_
      clear hK K
      repeat (first | refine nx ?_ | (refine z10 fun K hK => ?_; simp (maxSteps := 4000000) only [go_sem]; refine hK _ ?_; clear hK K))
      refine z15 (fun (q : Nat × Int × (List EntK × Nat) × List Int × Int) => [(51, .d (.i (q.1 : Int))), (2, .own 82)])
        (fun q => [(47, some (.box [.d (.sl (intRows k.allerg)), .d (.sl (batRows k.batches)), .d (.sl (dishRows k.dishes)), .d (.sl (dayRows k.days)), .own 13, .own 14, .d (.i q.2.1)])), (13, some (.arr 3 1 (intRows (planL k q.1).1))),
          (20, some (.mp (some 11) (memK q.2.2.1.1) q.2.2.1.2)), (7, some (.box (.d (.i q.2.2.2.2) :: (pad10 q.2.2.2.1).map fun n => .d (.i n)))), (82, some (.arr 22 1 (listRows (planL k q.1).2)))])
        (fun q => q.1 ≤ k.days.length ∧ GoodT k q.2.2.1.1 ∧ (0 ≤ q.2.1 ∧ q.2.1 ≤ 144000000 * q.1) ∧ q.2.2.2.1.length = k.batches.length) (fun q => k.days.length - q.1) (0, 0, (es, c), amtK k, 0) ?_ ⟨Nat.zero_le _, g2, ⟨Int.le_refl _, Int.le_refl _⟩, z116 k⟩ ?_
      · simp (maxSteps := 4000000) only [go_sem, hx, List.map_cons, List.map_nil]
        refine z13 [82] ?_ ?_ rfl rfl <;> simp [lessT, lessM, lessB, AV.less, planL, listRows]
      · rintro ⟨i, w, ⟨es, c⟩, pv, e⟩ ⟨hi, hgt, ⟨hw0, hw1⟩, hpv⟩
        dsimp only at hi hgt hw0 hw1 hpv
        obtain ⟨z0, z1, z2, z3, z4, z5, z6, z7, z8, z9, hz⟩ := ten (z127 (l := pv) (by omega))
        obtain ⟨p1, p2⟩ := z140 hg i hi
        simp (maxSteps := 4000000) only [go_sem, hz, List.map_cons, List.map_nil]
        repeat (first | refine nx ?_ | (refine z10 fun K hK => ?_; simp (maxSteps := 4000000) only [go_sem]; refine hK _ ?_; clear hK K))
        refine z14 rfl (fun hb => ?_) (fun hb => ?_)
        · have hlt : i < k.days.length := by simpa using hb
          have hw : IntKind.i64.wrap ((i : Int) + 1) = ((i + 1 : Nat) : Int) := by rw [z16 (by omega)]; simp
          obtain ⟨L, hL⟩ : ∃ L, L = (planL k i).1 := ⟨_, rfl⟩
          have hps := z221 k i
          rw [← hL] at p1 p2 hps ⊢
          have hL10 : L.length ≤ 10 := by omega
          obtain ⟨y0, y1, y2, y3, y4, y5, y6, y7, y8, y9, hy⟩ := ten (z127 (l := L) hL10)
          have hcp := z1040 (c := L) (p := pv) hL10 (by omega) (.d (.i e))
          rw [hy, hz] at hcp
          simp only [List.map_cons, List.map_nil] at hcp
          have hi1 : headIs 1 (intRows L) = true := by cases L <;> rfl
          have hir : k.days.length - (k.days.length - i) = i := by omega
          have h40 := z1085 k hg (k.days.length - i) (by omega) L (es, c) p2 p1
          obtain ⟨g1, g2⟩ := z267 hg (k.days.length - i) (by omega) L p2 p1 (es, c) hgt
          obtain ⟨m1, m2⟩ := z266 hg hlt p2 p1
          obtain ⟨⟨wv2, wm2⟩, es2, c2, hbm2⟩ : ∃ p es2 c2, bestM k (k.days.length - i) L (es, c) = (p, es2, c2) := ⟨_, _, _, rfl⟩
          rw [hbm2] at h40 g1 g2
          dsimp only at g1 g2
          rw [← g1] at m1 m2 hps
          dsimp only at m1 m2 hps
          rw [hir, hy, plannerRow] at h40
          dsimp only [planR, List.map_cons, List.map_nil] at h40
          simp only [List.map_cons, List.map_nil] at h40
          have h42 := z1045 k hbl (i : Int) L (ordK k) w p2 p1 ⟨hw0, by omega⟩
          obtain ⟨c1, c2', c3⟩ := z47 (k := k) (day := (i : Int)) (w := w) p1 k.batches.length
          have c4 := z39 k (i : Int) L w k.batches.length
          have c5 : (clr0 k i L).1 = (clrTo k (i : Int) L w k.batches.length).1 := by rw [clr0, ← z350]
          rw [c5] at hps
          obtain ⟨⟨C, v⟩, hC⟩ : ∃ a, a = clrTo k (i : Int) L w k.batches.length := ⟨_, rfl⟩
          rw [← hC] at h42 c1 c2' c3 c4 hps
          dsimp only at c1 c2' c3 c4 hps
          have h44 := z1044 k hg wm2 (hiN k i) 45 [.ptr [.ptr (k.cells ++ [.any]) 0] 0, .ptr [.i (i : Int)] 0] m1 (fun j hj => z1149 k i j hlt (by omega))
          have h43 := z1049 k (needL k wm2 (hiN k i)) C (ordK k) v (by omega) hbl c1 (z56 hg m1) (by rw [z60]; exact hg.goods.2) (fun x hx => z46 hx) (by rw [z180]; exact hbl)
          rw [z60] at h43
          rw [Kitchen.cells] at h44
          dsimp only [List.cons_append, List.nil_append] at h44
          simp only [lardRow] at h42
          unfold takeD at hps
          obtain ⟨NN, hNN⟩ : ∃ NN, NN = needL k wm2 (hiN k i) := ⟨_, rfl⟩
          rw [← hNN] at h44 h43 hps
          obtain ⟨ms, hms⟩ : ∃ ms, ms = (planL k i).2 := ⟨_, rfl⟩
          have hap : listRows ms ++ [[.sl (intRows wm2)]] = listRows (ms ++ [wm2]) := by simp [listRows]
          have hml : ms.length + 1 ≤ 549755813888 := by rw [hms, z59]; omega
          rw [← hms] at hps ⊢
          repeat (first | refine nx ?_ | (refine z10 fun K hK => ?_; simp (maxSteps := 4000000) only [go_sem]; refine hK _ ?_; clear hK K))
          refine z17 (by kernel_rfl) (by kernel_rfl) fun K hK => ?_
          simp (maxSteps := 4000000) only [go_sem, hi1, z19, hcp]
          refine ⟨by kernel_rfl, hK _ ?_⟩
          clear hK K
          repeat refine nx ?_
          refine z10 fun K hK => ?_
          simp (maxSteps := 4000000) only [go_sem]
          refine hK _ ?_
          clear hK K
          repeat refine nx ?_
          refine z10 fun K hK => ?_
          simp (maxSteps := 4000000) only [go_sem]
          refine ⟨_, .own (ns := [22, 20]) (news := []) (bads := [20]) (rd := []) (hf := h40) (hnd := by decide) (hl0 := rfl) (hl1 := rfl) (hm := by repeat (first | exact trivial | refine And.intro ?_ ?_ | rfl)) (hnew := rfl) (hla := rfl) (ha := z31 (by repeat (first | exact trivial | refine And.intro ?_ ?_ | exact z35 rfl | exact z28 rfl rfl))) (hrd := rfl) (hsh := z29 _) (hb := rfl) (hfl := .inl rfl), ?_⟩
          simp (maxSteps := 4000000) only [go_sem, List.map_cons, List.map_nil]
          refine hK _ ?_
          clear hK K
          repeat refine nx ?_
          refine z10 fun K hK => ?_
          simp (maxSteps := 4000000) only [go_sem]
          refine ⟨_, .own (ns := [47, 13, 14]) (news := []) (bads := [13, 14]) (rd := []) (hf := h42) (hnd := by decide) (hl0 := rfl) (hl1 := rfl) (hm := by repeat (first | exact trivial | refine And.intro ?_ ?_ | rfl)) (hnew := rfl) (hla := rfl) (ha := z31 (by repeat (first | exact trivial | refine And.intro ?_ ?_ | exact z35 rfl | exact z28 rfl rfl))) (hrd := rfl) (hsh := z29 _) (hb := rfl) (hfl := .inl rfl), ?_⟩
          simp (maxSteps := 4000000) only [go_sem, List.map_cons, List.map_nil]
          refine hK _ ?_
          clear hK K
          cases htk : takeTo k (ordK k) NN C k.allerg.length with
          | none =>
            rw [htk] at h43 hps
            simp only [takeBlks, lardRow, Option.isSome_none] at h43
            rw [Option.getD_none] at hps
            repeat refine nx ?_
            refine z212 8 fun K hK => ?_
            simp (maxSteps := 4000000) only [go_sem]
            refine ⟨_, .lentS (hdst := rfl) (hf := h44) (hd := rfl) (hr := z38 _) (hfr := rfl), ?_⟩
            simp (maxSteps := 4000000) only [go_sem]
            refine ⟨_, z84 [77] _, ?_⟩
            simp (maxSteps := 4000000) only [go_sem]
            refine ⟨_, .own (ns := [47, 13, 14]) (news := []) (bads := [13, 14]) (rd := []) (hf := h43) (hnd := by decide) (hl0 := rfl) (hl1 := rfl) (hm := by repeat (first | exact trivial | refine And.intro ?_ ?_ | rfl)) (hnew := rfl) (hla := rfl) (ha := z31 (by repeat (first | exact trivial | refine And.intro ?_ ?_ | exact z35 rfl | exact z28 rfl rfl))) (hrd := rfl) (hsh := z29 _) (hb := rfl) (hfl := .inl rfl), ?_⟩
            simp (maxSteps := 4000000) only [go_sem, List.map_cons, List.map_nil]
            refine hK _ ?_
            clear hK K
            repeat (first | refine nx ?_ | (refine z10 fun K hK => ?_; simp (maxSteps := 4000000) only [go_sem, hml, hap, hw, z20]; refine hK _ ?_; clear hK K))
            refine ⟨rfl, (i + 1, v, (es2, c2), L, (i : Int)), ?_, ⟨hlt, g2, ⟨by dsimp only; omega, by dsimp only; push_cast; omega⟩, p2⟩, by dsimp only; omega⟩
            dsimp only
            rw [hps]
            simp (maxSteps := 4000000) only [go_sem, hy, List.map_cons, List.map_nil]
            refine z13 [] ?_ ?_ rfl rfl <;> simp [lessT, lessM, lessB, AV.less]
          | some c' =>
            rw [htk] at h43 hps
            simp only [takeBlks, lardRow, Option.isSome_some] at h43
            rw [Option.getD_some] at hps
            repeat refine nx ?_
            refine z212 8 fun K hK => ?_
            simp (maxSteps := 4000000) only [go_sem]
            refine ⟨_, .lentS (hdst := rfl) (hf := h44) (hd := rfl) (hr := z38 _) (hfr := rfl), ?_⟩
            simp (maxSteps := 4000000) only [go_sem]
            refine ⟨_, z84 [77] _, ?_⟩
            simp (maxSteps := 4000000) only [go_sem]
            refine ⟨_, .own (ns := [47, 13, 14]) (news := [15]) (bads := [13, 14]) (rd := []) (hf := h43) (hnd := by decide) (hl0 := rfl) (hl1 := rfl) (hm := by repeat (first | exact trivial | refine And.intro ?_ ?_ | rfl)) (hnew := rfl) (hla := rfl) (ha := z31 (by repeat (first | exact trivial | refine And.intro ?_ ?_ | exact z35 rfl | exact z28 rfl rfl))) (hrd := rfl) (hsh := z29 _) (hb := rfl) (hfl := .inl rfl), ?_⟩
            simp (maxSteps := 4000000) only [go_sem, List.map_cons, List.map_nil]
            refine hK _ ?_
            clear hK K
            refine z393 [] [] [(13, none)] ?_ ?_
            · simp (maxSteps := 4000000) only [go_sem]
              refine z13 [] ?_ ?_ rfl rfl <;> simp [lessT, lessM, lessB, AV.less]
            simp (maxSteps := 4000000) only [go_sem]
            refine z273 15 13 ?_
            simp (maxSteps := 4000000) only [go_sem]
            repeat (first | refine nx ?_ | (refine z10 fun K hK => ?_; simp (maxSteps := 4000000) only [go_sem, hml, hap, hw, z20]; refine hK _ ?_; clear hK K))
            refine ⟨rfl, (i + 1, v, (es2, c2), L, (i : Int)), ?_, ⟨hlt, g2, ⟨by dsimp only; omega, by dsimp only; push_cast; omega⟩, p2⟩, by dsimp only; omega⟩
            dsimp only
            rw [hps]
            simp (maxSteps := 4000000) only [go_sem, hy, List.map_cons, List.map_nil]
            refine z13 [] ?_ ?_ rfl rfl <;> simp [lessT, lessM, lessB, AV.less]
        · have he : i = k.days.length := by (have : ¬ i < k.days.length := by simpa using hb); omega
          subst he
          repeat (first | refine nx ?_ | (refine z10 fun K hK => ?_; simp (maxSteps := 4000000) only [go_sem]; refine hK _ ?_; clear hK K))
          simp (maxSteps := 4000000) only [go_sem]
end Go.Ab
namespace Go.Ab
open Go.RowKit Go.Proofs
set_option maxHeartbeats 16000000
set_option maxRecDepth 20000
attribute [local irreducible] WalkL Walk
def countB (n : Int) (g : Diners) : Bool := withinB n g.count.lo g.count.hi
theorem z1146 (n : Int) (g : Diners) : Fn Try.prog 53 [.i n, .agg g.row] (.bool (countB n g)) := by
  have h := z942 n g.count.lo g.count.hi
  unfold countB
  refine z18 13 Try.call53 Try.func53 rfl (by decide) fun J => ?_
  simp (maxSteps := 4000000) only [go_sem, St.start, Try.ntmps53, Try.results53, Diners.row]
  repeat (first | refine nx ?_ | (refine z10 fun K hK => ?_; simp (maxSteps := 4000000) only [go_sem]; (repeat (first | (refine ⟨_, .lent (hf := h) (hd := rfl) (hr := rfl), ?_⟩; simp (maxSteps := 4000000) only [go_sem]) | (refine ⟨_, .given (hf := h) (hd := rfl) (ha := rfl), ?_⟩; simp (maxSteps := 4000000) only [go_sem]))); refine hK _ ?_; clear hK K))
  simp (maxSteps := 4000000) only [go_sem]
theorem z1081 (k : Kitchen) (hg : KitGood k) (M : List (List Int)) (hM : M.length < 2 ^ 30) (hMr : ∀ r ∈ M, r.length < 2 ^ 30) : Fn Try.prog 52 [.agg k.cells, .sl (listRows M), .fn 53 []] (.bool (shapedB (countB) M k.days)) := by
  have hdd := hg.days
  have hgr := hg.groups
  obtain ⟨q, hq⟩ : ∃ q, q = countB := ⟨_, rfl⟩
  have h137 := fun (n : Int) (g : Diners) => z1146 n g
  simp only [← hq] at h137
  rw [← hq]
  obtain ⟨R, hR⟩ : ∃ R, R = shapedB q M k.days := ⟨_, rfl⟩
  rw [← hR]
  cases q1 : ((M.length : Int) != (k.days.length : Int))
  · have hl : M.length = k.days.length := by
      simp only [bne_eq_false_iff_eq] at q1
      omega
    refine z18 55 Try.call52 Try.func52 rfl (by decide) fun J => ?_
    simp (maxSteps := 4000000) only [go_sem, St.start, Try.ntmps52, Try.results52, Kitchen.cells]
    repeat (first | refine z12 rfl ?_ | refine z11 rfl ?_ | refine nx ?_ | (refine z10 fun K hK => ?_; simp (maxSteps := 4000000) only [go_sem, q1]; refine hK _ ?_; clear hK K))
    refine z15 (fun (i : Nat) => [(22, .d (.i (i : Int)))]) (fun _ => []) (fun i => i ≤ k.days.length ∧ R = shapedB q (M.drop i) (k.days.drop i)) (fun i => k.days.length - i) 0 ?_ ⟨Nat.zero_le _, hR⟩ ?_
    · simp (maxSteps := 4000000) only [go_sem]
      refine z13 [] ?_ ?_ rfl rfl <;> simp [lessT, lessM, lessB, AV.less]
    · rintro i ⟨hi, hRi⟩
      simp (maxSteps := 4000000) only [go_sem]
      repeat (first | refine nx ?_ | (refine z10 fun K hK => ?_; simp (maxSteps := 4000000) only [go_sem]; refine hK _ ?_; clear hK K))
      refine z14 rfl (fun hb => ?_) (fun hb => ?_)
      · have hlt : i < k.days.length := by simpa using hb
        have hw : IntKind.i64.wrap ((i : Int) + 1) = ((i + 1 : Nat) : Int) := by rw [z16 (by omega)]; simp
        obtain ⟨d, hd⟩ : ∃ d, k.days[i]? = some d := ⟨_, List.getElem?_eq_getElem hlt⟩
        obtain ⟨r, hr⟩ : ∃ r, M[i]? = some r := ⟨_, List.getElem?_eq_getElem (by omega)⟩
        have g1 := z69 hd
        have g2 := z40 hr
        have hni : ¬ ((i : Int) < 0) := by omega
        have hd3 := (hgr d (List.mem_of_getElem? hd)).1
        rw [z25 hd, z25 hr, shapedB] at hRi
        cases q2 : ((r.length : Int) != (d.length : Int))
        · have hrl : r.length = d.length := by
            simp only [bne_eq_false_iff_eq] at q2
            omega
          repeat (first | refine z12 rfl ?_ | refine z11 rfl ?_ | refine nx ?_ | (refine z10 fun K hK => ?_; simp (maxSteps := 4000000) only [go_sem, g1, g2, hni, q2]; refine hK _ ?_; clear hK K))
          refine z15 (fun (j : Nat) => [(37, .d (.i (j : Int)))]) (fun _ => []) (fun j => j ≤ d.length ∧ R = (rowOk q (r.drop j) (d.drop j) && shapedB q (M.drop (i + 1)) (k.days.drop (i + 1)))) (fun j => d.length - j) 0 ?_ ⟨Nat.zero_le _, hRi⟩ ?_
          · simp (maxSteps := 4000000) only [go_sem]
            refine z13 [] ?_ ?_ rfl rfl <;> simp [lessT, lessM, lessB, AV.less]
          · rintro j ⟨hj, hRj⟩
            simp (maxSteps := 4000000) only [go_sem]
            repeat (first | refine nx ?_ | (refine z10 fun K hK => ?_; simp (maxSteps := 4000000) only [go_sem]; refine hK _ ?_; clear hK K))
            refine z14 rfl (fun hb => ?_) (fun hb => ?_)
            · have hltj : j < d.length := by simpa using hb
              have hwj : IntKind.i64.wrap ((j : Int) + 1) = ((j + 1 : Nat) : Int) := by rw [z16 (by omega)]; simp
              obtain ⟨g, hgj⟩ : ∃ g, d[j]? = some g := ⟨_, List.getElem?_eq_getElem hltj⟩
              obtain ⟨n, hnj⟩ : ∃ n, r[j]? = some n := ⟨_, List.getElem?_eq_getElem (by omega)⟩
              have g3 := z68 hgj
              have g4 := z37 hnj
              rw [Diners.row] at g3
              have hnjj : ¬ ((j : Int) < 0) := by omega
              have hc := h137 n g
              rw [Diners.row] at hc
              rw [z25 hgj, z25 hnj, rowOk] at hRj
              cases q3 : q n g
              · rw [q3] at hRj hc
                rw [Bool.false_and, Bool.false_and] at hRj
                rw [hRj]
                repeat (first | refine nx ?_ | (refine z10 fun K hK => ?_; simp (maxSteps := 4000000) only [go_sem, g3]; refine hK _ ?_; clear hK K))
                refine z17 (by kernel_rfl) (by kernel_rfl) fun K hK => ?_
                simp (maxSteps := 4000000) only [go_sem, g2, g4, hni, hnjj]
                refine ⟨_, .fn (hf := hc) (hd := rfl) (hr := .inl rfl), ?_⟩
                simp (maxSteps := 4000000) only [go_sem]
                refine ⟨by kernel_rfl, hK _ ?_⟩
                clear hK K
                repeat (first | refine z12 rfl ?_ | refine z11 rfl ?_ | refine nx ?_ | (refine z10 fun K hK => ?_; simp (maxSteps := 4000000) only [go_sem]; refine hK _ ?_; clear hK K))
                simp (maxSteps := 4000000) only [go_sem]
              · rw [q3] at hRj hc
                rw [Bool.true_and] at hRj
                repeat (first | refine nx ?_ | (refine z10 fun K hK => ?_; simp (maxSteps := 4000000) only [go_sem, g3]; refine hK _ ?_; clear hK K))
                refine z17 (by kernel_rfl) (by kernel_rfl) fun K hK => ?_
                simp (maxSteps := 4000000) only [go_sem, g2, g4, hni, hnjj]
                refine ⟨_, .fn (hf := hc) (hd := rfl) (hr := .inl rfl), ?_⟩
                simp (maxSteps := 4000000) only [go_sem]
                refine ⟨by kernel_rfl, hK _ ?_⟩
                clear hK K
                repeat (first | refine z12 rfl ?_ | refine z11 rfl ?_ | refine nx ?_ | (refine z10 fun K hK => ?_; simp (maxSteps := 4000000) only [go_sem, hwj]; refine hK _ ?_; clear hK K))
                refine ⟨rfl, j + 1, ?_, ⟨hltj, hRj⟩, by omega⟩
                refine z13 [] ?_ ?_ rfl rfl <;> simp [lessT, lessM, lessB, AV.less]
            · have he : j = d.length := by (have : ¬ j < d.length := by simpa using hb); omega
              subst he
              rw [List.drop_length, ← hrl, List.drop_length, rowOk, Bool.true_and] at hRj
              repeat (first | refine nx ?_ | (refine z10 fun K hK => ?_; simp (maxSteps := 4000000) only [go_sem, hw]; refine hK _ ?_; clear hK K))
              refine ⟨rfl, i + 1, ?_, ⟨hlt, hRj⟩, by omega⟩
              refine z13 [] ?_ ?_ rfl rfl <;> simp [lessT, lessM, lessB, AV.less]
        · have hf : rowOk q r d = false := by
            cases hx : rowOk q r d with
            | false => rfl
            | true =>
              have := z87 hx
              rw [this] at q2
              simp at q2
          rw [hf, Bool.false_and] at hRi
          rw [hRi]
          repeat (first | refine z12 rfl ?_ | refine z11 rfl ?_ | refine nx ?_ | (refine z10 fun K hK => ?_; simp (maxSteps := 4000000) only [go_sem, g1, g2, hni, q2]; refine hK _ ?_; clear hK K))
          simp (maxSteps := 4000000) only [go_sem]
      · have he : i = k.days.length := by (have : ¬ i < k.days.length := by simpa using hb); omega
        subst he
        rw [List.drop_length, ← hl, List.drop_length, shapedB] at hRi
        rw [hRi]
        repeat (first | refine nx ?_ | (refine z10 fun K hK => ?_; simp (maxSteps := 4000000) only [go_sem]; refine hK _ ?_; clear hK K))
        simp (maxSteps := 4000000) only [go_sem]
  · have hf : R = false := by
      rw [hR]
      cases hx : shapedB q M k.days with
      | false => rfl
      | true =>
        have := z27 hx
        rw [this] at q1
        simp at q1
    rw [hf]
    refine z18 55 Try.call52 Try.func52 rfl (by decide) fun J => ?_
    simp (maxSteps := 4000000) only [go_sem, St.start, Try.ntmps52, Try.results52, Kitchen.cells]
    repeat (first | refine z12 rfl ?_ | refine z11 rfl ?_ | refine nx ?_ | (refine z10 fun K hK => ?_; simp (maxSteps := 4000000) only [go_sem, q1]; refine hK _ ?_; clear hK K))
    simp (maxSteps := 4000000) only [go_sem]
def cntOf (C : List (List Int)) (d g : Nat) : Int := getI (C.getD d []) (g : Int)
theorem z1145 (C : List (List Int)) (d g : Nat) (hd : d < C.length) (hg : g < (C.getD d []).length) : Fn Try.prog 56 [.i (d : Int), .i (g : Int), .ptr [.sl (listRows C)] 0] (.i (cntOf C d g)) := by
  have e : C.getD d [] = C[d] := by rw [List.getD, List.getElem?_eq_getElem hd]; rfl
  have g1 := z40 (List.getElem?_eq_getElem hd)
  unfold cntOf
  rw [e] at hg ⊢
  have g2 := z21 hg
  have n1 : ¬ ((d : Int) < 0) := by omega
  have n2 : ¬ ((g : Int) < 0) := by omega
  refine z18 13 Try.call56 Try.func56 rfl (by decide) fun J => ?_
  simp (maxSteps := 4000000) only [go_sem, St.start, Try.ntmps56, Try.results56]
  repeat (first | refine nx ?_ | (refine z10 fun K hK => ?_; simp (maxSteps := 4000000) only [go_sem, g1, g2, n1, n2]; refine hK _ ?_; clear hK K))
  simp (maxSteps := 4000000) only [go_sem]
theorem z1078 (C : List (List Int)) (d g : Nat) (hd : d < C.length) (hg : g < (C.getD d []).length) : Fn Try.prog 84 [.i (g : Int), .ptr [.fn 56 [.ptr [.sl (listRows C)] 0]] 0, .ptr [.i (d : Int)] 0] (.i (cntOf C d g)) := by
  have h := z1145 C d g hd hg
  refine z18 9 Try.call84 Try.func84 rfl (by decide) fun J => ?_
  simp (maxSteps := 4000000) only [go_sem, St.start, Try.ntmps84, Try.results84]
  repeat (first | refine nx ?_ | (refine z10 fun K hK => ?_; simp (maxSteps := 4000000) only [go_sem]; (repeat (first | (refine ⟨_, .lent (hf := h) (hd := rfl) (hr := rfl), ?_⟩; simp (maxSteps := 4000000) only [go_sem]) | (refine ⟨_, .given (hf := h) (hd := rfl) (ha := rfl), ?_⟩; simp (maxSteps := 4000000) only [go_sem]))); refine hK _ ?_; clear hK K))
  simp (maxSteps := 4000000) only [go_sem]
theorem z932 {k : Kitchen} (hg : KitWide k) {C : List (List Int)} (hC : shapedB countB C k.days = true) : CntOk k (cntOf C) := ⟨fun d g hd hgl => by
  have hl := z27 hC
  obtain ⟨r, hr⟩ : ∃ r, C[d]? = some r := ⟨_, List.getElem?_eq_getElem (by omega)⟩
  obtain ⟨x, hx, hro⟩ := z125 hC hr
  have e : k.days.getD d [] = x := by rw [List.getD, hx]; rfl
  rw [e] at hgl
  have hrl := z87 hro
  obtain ⟨n, hn⟩ : ∃ n, r[g]? = some n := ⟨_, List.getElem?_eq_getElem (by omega)⟩
  obtain ⟨y, hy, hq⟩ := z476 hro hn
  have hi := ((hg.groups x (List.mem_of_getElem? hx)).2 y (List.mem_of_getElem? hy)).2
  have hw := z36.1 hq
  have e2 : cntOf C d g = n := by rw [cntOf, List.getD, hr, Option.getD_some, getI, Int.toNat_natCast, List.getD, hn]; rfl
  rw [e2]
  omega⟩
theorem z1007 {k : Kitchen} {C : List (List Int)} (hC : shapedB countB C k.days = true) {d g : Nat} (hd : d < k.days.length) (hgl : g < (k.days.getD d []).length) : d < C.length ∧ g < (C.getD d []).length := by
  have hl := z27 hC
  obtain ⟨r, hr⟩ : ∃ r, C[d]? = some r := ⟨_, List.getElem?_eq_getElem (by omega)⟩
  obtain ⟨x, hx, hro⟩ := z125 hC hr
  have e : k.days.getD d [] = x := by rw [List.getD, hx]; rfl
  rw [e] at hgl
  have hrl := z87 hro
  refine ⟨by omega, ?_⟩
  rw [List.getD, hr, Option.getD_some]
  omega
end Go.Ab
namespace Go.Ab
open Go.RowKit Go.Proofs
set_option maxHeartbeats 16000000
set_option maxRecDepth 20000
attribute [local irreducible] WalkL Walk
theorem z1079 (k : Kitchen) (hg : KitGood k) (M : List (List Int)) (hM : shapedB (menuB k) M k.days = true) (N : List (List Int)) (hN : shapedB countB N k.days = true) :
    FnG Try.prog 55 [.box (lardRow k (.own 1) (.own 2) 0), .arr 3 1 (intRows (amtK k)), .arr 3 1 (natRows (ordK k))] [0] [.box 0 0, .d (.sl (listRows M)), .d (.fn 56 [.ptr [.sl (listRows N)] 0])] (.d (.i (lastD k M (cntOf N) M.length : Nat))) (runBlks k M (cntOf N)) := by
  have hc := z932 hg hN
  have hf84 := fun d g (hd : d < k.days.length) (hgl : g < (k.days.getD d []).length) => z1078 N d g (z1007 hN hd hgl).1 (z1007 hN hd hgl).2
  obtain ⟨cnt, hcnt⟩ : ∃ cnt, cnt = cntOf N := ⟨_, rfl⟩
  rw [← hcnt] at hc ⊢
  simp only [← hcnt] at hf84
  have hbl := hg.batches
  have hdl := hg.days
  have hMl := z27 hM
  have hgo := hg.goods
  obtain ⟨A0, hA0⟩ : ∃ a, a = left0 k := ⟨_, rfl⟩
  refine z64 33 Try.call55 Try.func55 rfl (by decide) [] [(0, 0)] (by simp only [List.length_cons, List.length_nil]; decide) (by kernel_rfl) fun J => ?_
  simp (maxSteps := 4000000) only [go_sem, St.startG, Try.ntmps55, Try.results55, List.map_cons, List.map_nil, List.range_succ,  lardRow]
  repeat refine nx ?_
  refine z10 fun K hK => ?_
  simp (maxSteps := 4000000) only [go_sem]
  refine hK _ ?_
  clear hK K
  refine z23 [5] ?_
  simp (maxSteps := 4000000) only [go_sem]
  repeat (first | refine nx ?_ | (refine z10 fun K hK => ?_; simp (maxSteps := 4000000) only [go_sem, z20]; refine hK _ ?_; clear hK K))
  refine z15 (fun (q : Nat × Nat × List Int × Int) => [(11, .d (.i (q.1 : Int)))])
    (fun q => [(33, some (.box (lardRow k (.own (nmL q.2.1)) (.own 35) q.2.2.2))), (34, some (.arr 3 1 (intRows (if q.2.1 = 0 then q.2.2.1 else A0)))), (1, if q.2.1 = 1 then some (.arr 3 1 (intRows q.2.2.1)) else none), (2, if q.2.1 = 2 then some (.arr 3 1 (intRows q.2.2.1)) else none)])
    (fun q => q.1 ≤ M.length ∧ runSt k M cnt q.1 = some q.2.2 ∧ (q.2.1 = 0 → q.1 = 0 ∧ q.2.2.1 = amtK k) ∧ (q.1 = 0 → q.2.1 = 0) ∧ q.2.1 < 3) (fun q => M.length - q.1) (0, 0, amtK k, 0) ?_ ⟨Nat.zero_le _, rfl, fun _ => ⟨rfl, rfl⟩, fun _ => rfl, Nat.zero_lt_succ _⟩ ?_
  · simp (maxSteps := 4000000) only [go_sem, nmL, lardRow]
    refine z13 [] ?_ ?_ rfl rfl <;> simp [lessT, lessM, lessB, AV.less]
    all_goals first | done | rfl | exact ⟨rfl, rfl⟩ | trace_state
  · rintro ⟨d, p, l, w⟩ ⟨hd, hrun, hp0, hd0, hp3⟩
    dsimp only at hd hrun hp0 hd0 hp3
    obtain ⟨hla, hll, hw0, hw1⟩ := z219 hg hM hc d (l, w) hd hrun
    dsimp only at hla hll hw0 hw1
    have hw2 : w ≤ 2 ^ 40 := by omega
    have hsome : (runSt k M cnt d).isSome = true := by rw [hrun]; rfl
    have hlast : d = M.length → lastD k M cnt M.length = d ∧ endSt k M cnt = (l, w) := fun he => by
      have e : lastD k M cnt M.length = d := by rw [← he]; exact z135 hsome
      refine ⟨e, ?_⟩
      rw [endSt, e, hrun, if_neg (by omega)]
      rfl
    have hstop : d < M.length → runSt k M cnt (d + 1) = none → lastD k M cnt M.length = d ∧ endSt k M cnt = clrD k d (l, w) := fun hlt hn => by
      have e : lastD k M cnt M.length = d := z412 hsome hn (by omega)
      refine ⟨e, ?_⟩
      rw [endSt, e, hrun, if_pos hlt]
      rfl
    have hstep : d < M.length → runSt k M cnt (d + 1) = (takeTo k (ordK k) (needD k M cnt d) (clrD k d (l, w)).1 k.allerg.length).map fun c => (c, (clrD k d (l, w)).2) := fun _ => by rw [runSt, hrun]
    rcases (by omega : p = 0 ∨ p = 1 ∨ p = 2) with hp | hp | hp
    · -- phase 0
      subst hp
      obtain ⟨hz0, hl1⟩ := hp0 rfl
      have hLA := z409 hz0
      simp (maxSteps := 4000000) only [go_sem, nmL, lardRow]
      repeat (first | refine nx ?_ | (refine z10 fun K hK => ?_; simp (maxSteps := 4000000) only [go_sem]; refine hK _ ?_; clear hK K))
      refine z14 rfl (fun hb => ?_) (fun hb => ?_)
      · have hlt : d < M.length := by simpa using hb
        have hw : IntKind.i64.wrap ((d : Int) + 1) = ((d + 1 : Nat) : Int) := by rw [z16 (by omega)]; simp
        obtain ⟨r, hr⟩ : ∃ r, M[d]? = some r := ⟨_, List.getElem?_eq_getElem hlt⟩
        obtain ⟨hdd, hrl, hday⟩ := z154 hg hM hc hr
        have g1 := z40 hr
        have hni : ¬ ((d : Int) < 0) := by omega
        have hnd : needD k M cnt d = needL k r (cnt d) := by rw [needD, List.getD, hr]; rfl
        have hst := hstep hlt
        have hsp := hstop hlt
        rw [hnd] at hst
        have h86 := z1045 k hbl (d : Int) l (ordK k) w hll hla ⟨hw0, hw2⟩
        obtain ⟨c1, c2, c3⟩ := z47 (k := k) (day := (d : Int)) (w := w) hla k.batches.length
        have c4 := z39 k (d : Int) l w k.batches.length
        change runSt k M cnt (d + 1) = (takeTo k (ordK k) (needL k r (cnt d)) (clrTo k (d : Int) l w k.batches.length).1 k.allerg.length).map fun c => (c, (clrTo k (d : Int) l w k.batches.length).2) at hst
        change runSt k M cnt (d + 1) = none → lastD k M cnt M.length = d ∧ endSt k M cnt = clrTo k (d : Int) l w k.batches.length at hsp
        obtain ⟨⟨C, v⟩, hC⟩ : ∃ a, a = clrTo k (d : Int) l w k.batches.length := ⟨_, rfl⟩
        rw [← hC] at h86 c1 c2 c3 c4 hst hsp
        dsimp only at c1 c2 c3 c4 hst
        have hAC : C = A0 := by
          have h0 : (l, w) = (amtK k, 0) := by rw [hz0] at hrun; exact (Option.some.inj hrun).symm
          rw [hA0, left0, clrD, ← h0]
          rw [hz0] at hC
          exact congrArg Prod.fst hC
        subst hAC
        have h87 := (z1044 k hg r (cnt d) 84 [.ptr [.fn 56 [.ptr [.sl (listRows N)] 0]] 0, .ptr [.i (d : Int)] 0] hday (fun j hj => hf84 d j hdd (by omega))).deep
        have h141 := z1049 k (needL k r (cnt d)) C (ordK k) v (by omega) hbl c1 (z56 hg hday) (by rw [z60]; exact hgo.2) (fun x hx => z46 hx) (by rw [z180]; exact hbl)
        rw [z60] at h141
        simp only [lardRow] at h86
        rw [Kitchen.cells] at h87
        obtain ⟨NE, hNE⟩ : ∃ NE, NE = needL k r (cnt d) := ⟨_, rfl⟩
        rw [← hNE] at h87 h141 hst
        repeat refine nx ?_
        refine z10 fun K hK => ?_
        simp (maxSteps := 4000000) only [go_sem, g1, hni]
        refine hK _ ?_
        clear hK K
        refine z23 [7] ?_
        simp (maxSteps := 4000000) only [go_sem]
        repeat refine nx ?_
        refine z10 fun K hK => ?_
        simp (maxSteps := 4000000) only [go_sem]
        refine ⟨_, .own (ns := [33, 34, 35]) (news := []) (bads := [34, 35]) (rd := []) (hf := h86) (hnd := by decide) (hl0 := rfl) (hl1 := rfl) (hm := by repeat (first | exact trivial | refine And.intro ?_ ?_ | rfl)) (hnew := rfl) (hla := rfl) (ha := z31 (by repeat (first | exact trivial | refine And.intro ?_ ?_ | exact z35 rfl | exact z28 rfl rfl))) (hrd := rfl) (hsh := z29 _) (hb := rfl) (hfl := .inl rfl), ?_⟩
        simp (maxSteps := 4000000) only [go_sem, List.map_cons, List.map_nil]
        refine hK _ ?_
        clear hK K
        cases htk : takeTo k (ordK k) NE C k.allerg.length with
        | none =>
          rw [htk] at h141 hst
          obtain ⟨hD, hE⟩ := hsp hst
          simp only [takeBlks, lardRow, Option.isSome_none] at h141
          repeat refine nx ?_
          refine z10 fun K hK => ?_
          simp (maxSteps := 4000000) only [go_sem]
          refine ⟨_, .given (hf := h87) (hd := rfl) (ha := rfl), ?_⟩
          simp (maxSteps := 4000000) only [go_sem]
          refine ⟨_, .own (ns := [33, 34, 35]) (news := []) (bads := [34, 35]) (rd := []) (hf := h141) (hnd := by decide) (hl0 := rfl) (hl1 := rfl) (hm := by repeat (first | exact trivial | refine And.intro ?_ ?_ | rfl)) (hnew := rfl) (hla := rfl) (ha := z31 (by repeat (first | exact trivial | refine And.intro ?_ ?_ | exact z35 rfl | exact z28 rfl rfl))) (hrd := rfl) (hsh := z29 _) (hb := rfl) (hfl := .inl rfl), ?_⟩
          simp (maxSteps := 4000000) only [go_sem, List.map_cons, List.map_nil]
          refine hK _ ?_
          clear hK K
          repeat (first | refine nx ?_ | (refine z10 fun K hK => ?_; simp (maxSteps := 4000000) only [go_sem]; refine hK _ ?_; clear hK K))
          repeat (first | refine z12 rfl ?_ | refine z11 rfl ?_ | refine nx ?_ | (refine z10 fun K hK => ?_; simp (maxSteps := 4000000) only [go_sem]; refine hK _ ?_; clear hK K))
          simp (maxSteps := 4000000) only [go_sem, retG, runBlks, lardRow, hD, hE, hLA, ← hA0]
        | some c =>
          rw [htk] at h141 hst
          simp only [takeBlks, lardRow, Option.isSome_some] at h141
          repeat refine nx ?_
          refine z10 fun K hK => ?_
          simp (maxSteps := 4000000) only [go_sem]
          refine ⟨_, .given (hf := h87) (hd := rfl) (ha := rfl), ?_⟩
          simp (maxSteps := 4000000) only [go_sem]
          refine ⟨_, .own (ns := [33, 34, 35]) (news := [2]) (bads := [34, 35]) (rd := []) (hf := h141) (hnd := by decide) (hl0 := rfl) (hl1 := rfl) (hm := by repeat (first | exact trivial | refine And.intro ?_ ?_ | rfl)) (hnew := rfl) (hla := rfl) (ha := z31 (by repeat (first | exact trivial | refine And.intro ?_ ?_ | exact z35 rfl | exact z28 rfl rfl))) (hrd := rfl) (hsh := z29 _) (hb := rfl) (hfl := .inl rfl), ?_⟩
          simp (maxSteps := 4000000) only [go_sem, List.map_cons, List.map_nil]
          refine hK _ ?_
          clear hK K
          repeat (first | refine z12 rfl ?_ | refine z11 rfl ?_ | refine nx ?_ | (refine z10 fun K hK => ?_; simp (maxSteps := 4000000) only [go_sem, hw]; refine hK _ ?_; clear hK K))
          refine ⟨rfl, (d + 1, 2, c, v), ?_, ⟨hlt, hst, fun h => absurd (show 2 = 0 from h) (by decide), fun h => absurd (show d + 1 = 0 from h) (by omega), (by decide : 2 < 3)⟩, by dsimp only; omega⟩
          simp (maxSteps := 4000000) only [go_sem, nmL, lardRow]
          refine z13 [] ?_ ?_ rfl rfl <;> simp [lessT, lessM, lessB, AV.less]
          all_goals first | done | rfl | exact ⟨rfl, rfl⟩ | trace_state
      · have he : d = M.length := by (have : ¬ d < M.length := by simpa using hb); omega
        subst he
        exfalso
        omega
    · -- phase 1
      subst hp
      have hpos : d ≠ 0 := fun h => by have := hd0 h; omega
      have hLA := z203 hpos
      simp (maxSteps := 4000000) only [go_sem, nmL, lardRow]
      repeat (first | refine nx ?_ | (refine z10 fun K hK => ?_; simp (maxSteps := 4000000) only [go_sem]; refine hK _ ?_; clear hK K))
      refine z14 rfl (fun hb => ?_) (fun hb => ?_)
      · have hlt : d < M.length := by simpa using hb
        have hw : IntKind.i64.wrap ((d : Int) + 1) = ((d + 1 : Nat) : Int) := by rw [z16 (by omega)]; simp
        obtain ⟨r, hr⟩ : ∃ r, M[d]? = some r := ⟨_, List.getElem?_eq_getElem hlt⟩
        obtain ⟨hdd, hrl, hday⟩ := z154 hg hM hc hr
        have g1 := z40 hr
        have hni : ¬ ((d : Int) < 0) := by omega
        have hnd : needD k M cnt d = needL k r (cnt d) := by rw [needD, List.getD, hr]; rfl
        have hst := hstep hlt
        have hsp := hstop hlt
        rw [hnd] at hst
        have h86 := z1045 k hbl (d : Int) l (ordK k) w hll hla ⟨hw0, hw2⟩
        obtain ⟨c1, c2, c3⟩ := z47 (k := k) (day := (d : Int)) (w := w) hla k.batches.length
        have c4 := z39 k (d : Int) l w k.batches.length
        change runSt k M cnt (d + 1) = (takeTo k (ordK k) (needL k r (cnt d)) (clrTo k (d : Int) l w k.batches.length).1 k.allerg.length).map fun c => (c, (clrTo k (d : Int) l w k.batches.length).2) at hst
        change runSt k M cnt (d + 1) = none → lastD k M cnt M.length = d ∧ endSt k M cnt = clrTo k (d : Int) l w k.batches.length at hsp
        obtain ⟨⟨C, v⟩, hC⟩ : ∃ a, a = clrTo k (d : Int) l w k.batches.length := ⟨_, rfl⟩
        rw [← hC] at h86 c1 c2 c3 c4 hst hsp
        dsimp only at c1 c2 c3 c4 hst
        have h87 := (z1044 k hg r (cnt d) 84 [.ptr [.fn 56 [.ptr [.sl (listRows N)] 0]] 0, .ptr [.i (d : Int)] 0] hday (fun j hj => hf84 d j hdd (by omega))).deep
        have h141 := z1049 k (needL k r (cnt d)) C (ordK k) v (by omega) hbl c1 (z56 hg hday) (by rw [z60]; exact hgo.2) (fun x hx => z46 hx) (by rw [z180]; exact hbl)
        rw [z60] at h141
        simp only [lardRow] at h86
        rw [Kitchen.cells] at h87
        obtain ⟨NE, hNE⟩ : ∃ NE, NE = needL k r (cnt d) := ⟨_, rfl⟩
        rw [← hNE] at h87 h141 hst
        repeat refine nx ?_
        refine z10 fun K hK => ?_
        simp (maxSteps := 4000000) only [go_sem, g1, hni]
        refine hK _ ?_
        clear hK K
        refine z23 [7] ?_
        simp (maxSteps := 4000000) only [go_sem]
        repeat refine nx ?_
        refine z10 fun K hK => ?_
        simp (maxSteps := 4000000) only [go_sem]
        refine ⟨_, .own (ns := [33, 1, 35]) (news := []) (bads := [1, 35]) (rd := []) (hf := h86) (hnd := by decide) (hl0 := rfl) (hl1 := rfl) (hm := by repeat (first | exact trivial | refine And.intro ?_ ?_ | rfl)) (hnew := rfl) (hla := rfl) (ha := z31 (by repeat (first | exact trivial | refine And.intro ?_ ?_ | exact z35 rfl | exact z28 rfl rfl))) (hrd := rfl) (hsh := z29 _) (hb := rfl) (hfl := .inl rfl), ?_⟩
        simp (maxSteps := 4000000) only [go_sem, List.map_cons, List.map_nil]
        refine hK _ ?_
        clear hK K
        cases htk : takeTo k (ordK k) NE C k.allerg.length with
        | none =>
          rw [htk] at h141 hst
          obtain ⟨hD, hE⟩ := hsp hst
          simp only [takeBlks, lardRow, Option.isSome_none] at h141
          repeat refine nx ?_
          refine z10 fun K hK => ?_
          simp (maxSteps := 4000000) only [go_sem]
          refine ⟨_, .given (hf := h87) (hd := rfl) (ha := rfl), ?_⟩
          simp (maxSteps := 4000000) only [go_sem]
          refine ⟨_, .own (ns := [33, 1, 35]) (news := []) (bads := [1, 35]) (rd := []) (hf := h141) (hnd := by decide) (hl0 := rfl) (hl1 := rfl) (hm := by repeat (first | exact trivial | refine And.intro ?_ ?_ | rfl)) (hnew := rfl) (hla := rfl) (ha := z31 (by repeat (first | exact trivial | refine And.intro ?_ ?_ | exact z35 rfl | exact z28 rfl rfl))) (hrd := rfl) (hsh := z29 _) (hb := rfl) (hfl := .inl rfl), ?_⟩
          simp (maxSteps := 4000000) only [go_sem, List.map_cons, List.map_nil]
          refine hK _ ?_
          clear hK K
          repeat (first | refine nx ?_ | (refine z10 fun K hK => ?_; simp (maxSteps := 4000000) only [go_sem]; refine hK _ ?_; clear hK K))
          refine z23 [1] ?_
          simp (maxSteps := 4000000) only [go_sem]
          repeat (first | refine z12 rfl ?_ | refine z11 rfl ?_ | refine nx ?_ | (refine z10 fun K hK => ?_; simp (maxSteps := 4000000) only [go_sem]; refine hK _ ?_; clear hK K))
          simp (maxSteps := 4000000) only [go_sem, retG, runBlks, lardRow, hD, hE, hLA, ← hA0]
        | some c =>
          rw [htk] at h141 hst
          simp only [takeBlks, lardRow, Option.isSome_some] at h141
          repeat refine nx ?_
          refine z10 fun K hK => ?_
          simp (maxSteps := 4000000) only [go_sem]
          refine ⟨_, .given (hf := h87) (hd := rfl) (ha := rfl), ?_⟩
          simp (maxSteps := 4000000) only [go_sem]
          refine ⟨_, .own (ns := [33, 1, 35]) (news := [2]) (bads := [1, 35]) (rd := []) (hf := h141) (hnd := by decide) (hl0 := rfl) (hl1 := rfl) (hm := by repeat (first | exact trivial | refine And.intro ?_ ?_ | rfl)) (hnew := rfl) (hla := rfl) (ha := z31 (by repeat (first | exact trivial | refine And.intro ?_ ?_ | exact z35 rfl | exact z28 rfl rfl))) (hrd := rfl) (hsh := z29 _) (hb := rfl) (hfl := .inl rfl), ?_⟩
          simp (maxSteps := 4000000) only [go_sem, List.map_cons, List.map_nil]
          refine hK _ ?_
          clear hK K
          repeat (first | refine z12 rfl ?_ | refine z11 rfl ?_ | refine nx ?_ | (refine z10 fun K hK => ?_; simp (maxSteps := 4000000) only [go_sem, hw]; refine hK _ ?_; clear hK K))
          refine ⟨rfl, (d + 1, 2, c, v), ?_, ⟨hlt, hst, fun h => absurd (show 2 = 0 from h) (by decide), fun h => absurd (show d + 1 = 0 from h) (by omega), (by decide : 2 < 3)⟩, by dsimp only; omega⟩
          simp (maxSteps := 4000000) only [go_sem, nmL, lardRow]
          refine z13 [] ?_ ?_ rfl rfl <;> simp [lessT, lessM, lessB, AV.less]
          all_goals first | done | rfl | exact ⟨rfl, rfl⟩ | trace_state
      · have he : d = M.length := by (have : ¬ d < M.length := by simpa using hb); omega
        subst he
        obtain ⟨hD, hE⟩ := hlast rfl
        refine z23 [1] ?_
        simp (maxSteps := 4000000) only [go_sem]
        repeat (first | refine nx ?_ | (refine z10 fun K hK => ?_; simp (maxSteps := 4000000) only [go_sem]; refine hK _ ?_; clear hK K))
        simp (maxSteps := 4000000) only [go_sem, retG, runBlks, lardRow, hD, hE, hLA, ← hA0]
    · -- phase 2
      subst hp
      have hpos : d ≠ 0 := fun h => by have := hd0 h; omega
      have hLA := z203 hpos
      simp (maxSteps := 4000000) only [go_sem, nmL, lardRow]
      repeat (first | refine nx ?_ | (refine z10 fun K hK => ?_; simp (maxSteps := 4000000) only [go_sem]; refine hK _ ?_; clear hK K))
      refine z14 rfl (fun hb => ?_) (fun hb => ?_)
      · have hlt : d < M.length := by simpa using hb
        have hw : IntKind.i64.wrap ((d : Int) + 1) = ((d + 1 : Nat) : Int) := by rw [z16 (by omega)]; simp
        obtain ⟨r, hr⟩ : ∃ r, M[d]? = some r := ⟨_, List.getElem?_eq_getElem hlt⟩
        obtain ⟨hdd, hrl, hday⟩ := z154 hg hM hc hr
        have g1 := z40 hr
        have hni : ¬ ((d : Int) < 0) := by omega
        have hnd : needD k M cnt d = needL k r (cnt d) := by rw [needD, List.getD, hr]; rfl
        have hst := hstep hlt
        have hsp := hstop hlt
        rw [hnd] at hst
        have h86 := z1045 k hbl (d : Int) l (ordK k) w hll hla ⟨hw0, hw2⟩
        obtain ⟨c1, c2, c3⟩ := z47 (k := k) (day := (d : Int)) (w := w) hla k.batches.length
        have c4 := z39 k (d : Int) l w k.batches.length
        change runSt k M cnt (d + 1) = (takeTo k (ordK k) (needL k r (cnt d)) (clrTo k (d : Int) l w k.batches.length).1 k.allerg.length).map fun c => (c, (clrTo k (d : Int) l w k.batches.length).2) at hst
        change runSt k M cnt (d + 1) = none → lastD k M cnt M.length = d ∧ endSt k M cnt = clrTo k (d : Int) l w k.batches.length at hsp
        obtain ⟨⟨C, v⟩, hC⟩ : ∃ a, a = clrTo k (d : Int) l w k.batches.length := ⟨_, rfl⟩
        rw [← hC] at h86 c1 c2 c3 c4 hst hsp
        dsimp only at c1 c2 c3 c4 hst
        have h87 := (z1044 k hg r (cnt d) 84 [.ptr [.fn 56 [.ptr [.sl (listRows N)] 0]] 0, .ptr [.i (d : Int)] 0] hday (fun j hj => hf84 d j hdd (by omega))).deep
        have h141 := z1049 k (needL k r (cnt d)) C (ordK k) v (by omega) hbl c1 (z56 hg hday) (by rw [z60]; exact hgo.2) (fun x hx => z46 hx) (by rw [z180]; exact hbl)
        rw [z60] at h141
        simp only [lardRow] at h86
        rw [Kitchen.cells] at h87
        obtain ⟨NE, hNE⟩ : ∃ NE, NE = needL k r (cnt d) := ⟨_, rfl⟩
        rw [← hNE] at h87 h141 hst
        repeat refine nx ?_
        refine z10 fun K hK => ?_
        simp (maxSteps := 4000000) only [go_sem, g1, hni]
        refine hK _ ?_
        clear hK K
        refine z23 [7] ?_
        simp (maxSteps := 4000000) only [go_sem]
        repeat refine nx ?_
        refine z10 fun K hK => ?_
        simp (maxSteps := 4000000) only [go_sem]
        refine ⟨_, .own (ns := [33, 2, 35]) (news := []) (bads := [2, 35]) (rd := []) (hf := h86) (hnd := by decide) (hl0 := rfl) (hl1 := rfl) (hm := by repeat (first | exact trivial | refine And.intro ?_ ?_ | rfl)) (hnew := rfl) (hla := rfl) (ha := z31 (by repeat (first | exact trivial | refine And.intro ?_ ?_ | exact z35 rfl | exact z28 rfl rfl))) (hrd := rfl) (hsh := z29 _) (hb := rfl) (hfl := .inl rfl), ?_⟩
        simp (maxSteps := 4000000) only [go_sem, List.map_cons, List.map_nil]
        refine hK _ ?_
        clear hK K
        cases htk : takeTo k (ordK k) NE C k.allerg.length with
        | none =>
          rw [htk] at h141 hst
          obtain ⟨hD, hE⟩ := hsp hst
          simp only [takeBlks, lardRow, Option.isSome_none] at h141
          repeat refine nx ?_
          refine z10 fun K hK => ?_
          simp (maxSteps := 4000000) only [go_sem]
          refine ⟨_, .given (hf := h87) (hd := rfl) (ha := rfl), ?_⟩
          simp (maxSteps := 4000000) only [go_sem]
          refine ⟨_, .own (ns := [33, 2, 35]) (news := []) (bads := [2, 35]) (rd := []) (hf := h141) (hnd := by decide) (hl0 := rfl) (hl1 := rfl) (hm := by repeat (first | exact trivial | refine And.intro ?_ ?_ | rfl)) (hnew := rfl) (hla := rfl) (ha := z31 (by repeat (first | exact trivial | refine And.intro ?_ ?_ | exact z35 rfl | exact z28 rfl rfl))) (hrd := rfl) (hsh := z29 _) (hb := rfl) (hfl := .inl rfl), ?_⟩
          simp (maxSteps := 4000000) only [go_sem, List.map_cons, List.map_nil]
          refine hK _ ?_
          clear hK K
          repeat (first | refine nx ?_ | (refine z10 fun K hK => ?_; simp (maxSteps := 4000000) only [go_sem]; refine hK _ ?_; clear hK K))
          refine z23 [2] ?_
          simp (maxSteps := 4000000) only [go_sem]
          repeat (first | refine z12 rfl ?_ | refine z11 rfl ?_ | refine nx ?_ | (refine z10 fun K hK => ?_; simp (maxSteps := 4000000) only [go_sem]; refine hK _ ?_; clear hK K))
          simp (maxSteps := 4000000) only [go_sem, retG, runBlks, lardRow, hD, hE, hLA, ← hA0]
        | some c =>
          rw [htk] at h141 hst
          simp only [takeBlks, lardRow, Option.isSome_some] at h141
          repeat refine nx ?_
          refine z10 fun K hK => ?_
          simp (maxSteps := 4000000) only [go_sem]
          refine ⟨_, .given (hf := h87) (hd := rfl) (ha := rfl), ?_⟩
          simp (maxSteps := 4000000) only [go_sem]
          refine ⟨_, .own (ns := [33, 2, 35]) (news := [1]) (bads := [2, 35]) (rd := []) (hf := h141) (hnd := by decide) (hl0 := rfl) (hl1 := rfl) (hm := by repeat (first | exact trivial | refine And.intro ?_ ?_ | rfl)) (hnew := rfl) (hla := rfl) (ha := z31 (by repeat (first | exact trivial | refine And.intro ?_ ?_ | exact z35 rfl | exact z28 rfl rfl))) (hrd := rfl) (hsh := z29 _) (hb := rfl) (hfl := .inl rfl), ?_⟩
          simp (maxSteps := 4000000) only [go_sem, List.map_cons, List.map_nil]
          refine hK _ ?_
          clear hK K
          repeat (first | refine z12 rfl ?_ | refine z11 rfl ?_ | refine nx ?_ | (refine z10 fun K hK => ?_; simp (maxSteps := 4000000) only [go_sem, hw]; refine hK _ ?_; clear hK K))
          refine ⟨rfl, (d + 1, 1, c, v), ?_, ⟨hlt, hst, fun h => absurd (show 1 = 0 from h) (by decide), fun h => absurd (show d + 1 = 0 from h) (by omega), (by decide : 1 < 3)⟩, by dsimp only; omega⟩
          simp (maxSteps := 4000000) only [go_sem, nmL, lardRow]
          refine z13 [] ?_ ?_ rfl rfl <;> simp [lessT, lessM, lessB, AV.less]
          all_goals first | done | rfl | exact ⟨rfl, rfl⟩ | trace_state
      · have he : d = M.length := by (have : ¬ d < M.length := by simpa using hb); omega
        subst he
        obtain ⟨hD, hE⟩ := hlast rfl
        refine z23 [2] ?_
        simp (maxSteps := 4000000) only [go_sem]
        repeat (first | refine nx ?_ | (refine z10 fun K hK => ?_; simp (maxSteps := 4000000) only [go_sem]; refine hK _ ?_; clear hK K))
        simp (maxSteps := 4000000) only [go_sem, retG, runBlks, lardRow, hD, hE, hLA, ← hA0]
end Go.Ab
namespace Go.Ab
open Go.RowKit Go.Proofs
set_option maxHeartbeats 16000000
set_option maxRecDepth 20000
attribute [local irreducible] WalkL Walk
def cookE (k : Kitchen) (M C : List (List Int)) : Int := if openK k M = 0 then (if shapedB countB C k.days then 0 else 72) else openK k M
def cookP (k : Kitchen) (M C : List (List Int)) : List Int × Int × Nat × Int :=
  if cookE k M C = 0 then ((endSt k M (cntOf C)).1, (endSt k M (cntOf C)).2, lastD k M (cntOf C) M.length, 0) else ([], 0, 0, cookE k M C)
theorem z321 {k : Kitchen} {M : List (List Int)} (h0 : openK k M = 0) : KitGood k ∧ shapedB (menuB k) M k.days = true := by
  unfold openK at h0
  split at h0
  · rename_i hz
    split at h0
    · exact ⟨z142 (z136.1 hz), by assumption⟩
    · cases h0
  · contradiction
theorem z1152 (k : Kitchen) (M C : List (List Int)) (hs : KitSmall k) (hM : M.length < 2 ^ 30) (hMr : ∀ r ∈ M, r.length < 2 ^ 30) (hC : C.length < 2 ^ 30) (hCr : ∀ r ∈ C, r.length < 2 ^ 30) :
    Fn Try.prog 25 [.agg k.cells, .sl (listRows M), .sl (listRows C)] (.tup [.sl (intRows (cookP k M C).1), .i (cookP k M C).2.1, .i ((cookP k M C).2.2.1 : Nat), .i (cookP k M C).2.2.2]) := by
  have h48 := z1101 k M hs hM hMr
  unfold cookP cookE
  by_cases h0 : ¬ openK k M = 0
  · have hb : (openK k M == 0) = false := by simpa using h0
    have hb2 : (openK k M != 0) = true := by simpa using h0
    rw [if_neg h0, if_neg h0]
    rw [Kitchen.cells] at h48 ⊢
    dsimp only
    refine z18 44 Try.call25 Try.func25 rfl (by decide) fun J => ?_
    simp (maxSteps := 4000000) only [go_sem, St.start, Try.ntmps25, Try.results25]
    repeat (first | refine z12 rfl ?_ | refine z11 rfl ?_ | refine nx ?_ | (refine z10 fun K hK => ?_; simp (maxSteps := 4000000) only [go_sem, hb, hb2]; (repeat (first | (refine ⟨_, .lent (hf := h48) (hd := rfl) (hr := rfl), ?_⟩; simp (maxSteps := 4000000) only [go_sem, hb, hb2]) | (refine ⟨_, .given (hf := h48) (hd := rfl) (ha := rfl), ?_⟩; simp (maxSteps := 4000000) only [go_sem, hb, hb2]))); refine hK _ ?_; clear hK K))
    simp (maxSteps := 4000000) only [go_sem, intRows, List.map_nil]
  have h0 : openK k M = 0 := Decidable.not_not.1 h0
  obtain ⟨hg, hsh⟩ := z321 h0
  have h52 := z1081 k hg C hC hCr
  rw [if_pos h0]
  rw [h0] at h48
  cases hc : shapedB countB C k.days with
  | false =>
    rw [hc] at h52
    rw [if_neg (by decide : ¬ (if false = true then (0 : Int) else 72) = 0), if_neg (by decide : ¬ false = true)]
    rw [Kitchen.cells] at h48 h52 ⊢
    refine z18 44 Try.call25 Try.func25 rfl (by decide) fun J => ?_
    simp (maxSteps := 4000000) only [go_sem, St.start, Try.ntmps25, Try.results25]
    repeat (first | refine z12 rfl ?_ | refine z11 rfl ?_ | refine nx ?_ | (refine z10 fun K hK => ?_; simp (maxSteps := 4000000) only [go_sem]; (repeat (first | (refine ⟨_, .lent (hf := h48) (hd := rfl) (hr := rfl), ?_⟩; simp (maxSteps := 4000000) only [go_sem]) | (refine ⟨_, .lent (hf := h52) (hd := rfl) (hr := rfl), ?_⟩; simp (maxSteps := 4000000) only [go_sem]) | (refine ⟨_, .given (hf := h48) (hd := rfl) (ha := rfl), ?_⟩; simp (maxSteps := 4000000) only [go_sem]) | (refine ⟨_, .given (hf := h52) (hd := rfl) (ha := rfl), ?_⟩; simp (maxSteps := 4000000) only [go_sem]))); refine hK _ ?_; clear hK K))
    simp (maxSteps := 4000000) only [go_sem, intRows, List.map_nil]
  | true =>
    rw [hc] at h52
    rw [if_pos rfl, if_pos rfl]
    have h55 := z1079 k hg M hsh C hc
    have h41 : FnG Try.prog 41 [] [] (List.map AV.d [.agg k.cells]) _ _ := z1073 k hg.batches
    have hlen := hg.days
    have hMl := z27 hsh
    obtain ⟨D, hD⟩ : ∃ D, D = lastD k M (cntOf C) M.length := ⟨_, rfl⟩
    have he0 : D = 0 → (endSt k M (cntOf C)).1 = left0 k := fun h => by
      rw [endSt, ← hD, h, if_pos (by omega)]
      rfl
    rw [runBlks, ← hD] at h55
    rw [← hD]
    obtain ⟨⟨EL, EW⟩, hE⟩ : ∃ e, e = endSt k M (cntOf C) := ⟨_, rfl⟩
    rw [← hE] at h55 he0 ⊢
    dsimp only at h55 he0 ⊢
    simp only [lardRow] at h41 h55
    rw [Kitchen.cells] at h41 h48 h52 ⊢
    by_cases hz : D = 0
    · rw [z409 hz] at h55
      rw [← he0 hz] at h55
      refine z18 44 Try.call25 Try.func25 rfl (by decide) fun J => ?_
      simp (maxSteps := 4000000) only [go_sem, St.start, Try.ntmps25, Try.results25]
      repeat refine nx ?_
      refine z10 fun K hK => ?_
      simp (maxSteps := 4000000) only [go_sem]
      refine hK _ ?_
      clear hK K
      refine z23 [5] ?_
      simp (maxSteps := 4000000) only [go_sem]
      repeat (first | refine z12 rfl ?_ | refine z11 rfl ?_ | refine nx ?_ | (refine z10 fun K hK => ?_; simp (maxSteps := 4000000) only [go_sem]; (repeat (first | (refine ⟨_, .lent (hf := h48) (hd := rfl) (hr := rfl), ?_⟩; simp (maxSteps := 4000000) only [go_sem]) | (refine ⟨_, .lent (hf := h52) (hd := rfl) (hr := rfl), ?_⟩; simp (maxSteps := 4000000) only [go_sem]) | (refine ⟨_, .given (hf := h48) (hd := rfl) (ha := rfl), ?_⟩; simp (maxSteps := 4000000) only [go_sem]) | (refine ⟨_, .given (hf := h52) (hd := rfl) (ha := rfl), ?_⟩; simp (maxSteps := 4000000) only [go_sem]))); refine hK _ ?_; clear hK K))
      refine z10 fun K hK => ?_
      simp (maxSteps := 4000000) only [go_sem]
      refine ⟨_, .made (news := [30, 16, 17]) (hf := h41) (hd := rfl) (hn := by decide) (hl := rfl) (hnew := rfl) (hx := rfl), ?_⟩
      simp (maxSteps := 4000000) only [go_sem, List.map_cons, List.map_nil]
      refine hK _ ?_
      clear hK K
      repeat refine nx ?_
      refine z10 fun K hK => ?_
      simp (maxSteps := 4000000) only [go_sem]
      refine ⟨_, .own (ns := [30, 16, 17]) (news := []) (bads := [16, 17]) (rd := []) (hf := h55) (hnd := by decide) (hl0 := rfl) (hl1 := rfl) (hm := by repeat (first | exact trivial | refine And.intro ?_ ?_ | rfl)) (hnew := rfl) (hla := rfl) (ha := z31 (by repeat (first | exact trivial | refine And.intro ?_ ?_ | exact z35 rfl | exact z28 rfl rfl))) (hrd := rfl) (hsh := z29 _) (hb := rfl) (hfl := .inl rfl), ?_⟩
      simp (maxSteps := 4000000) only [go_sem, List.map_cons, List.map_nil]
      refine hK _ ?_
      clear hK K
      repeat refine nx ?_
      refine z17 (by kernel_rfl) (by kernel_rfl) fun K hK => ?_
      simp (maxSteps := 4000000) only [go_sem]
      refine ⟨by kernel_rfl, hK _ ?_⟩
      clear hK K
      repeat (first | refine nx ?_ | (refine z10 fun K hK => ?_; simp (maxSteps := 4000000) only [go_sem]; refine hK _ ?_; clear hK K))
      simp (maxSteps := 4000000) only [go_sem]
    · rw [z203 hz] at h55
      refine z18 44 Try.call25 Try.func25 rfl (by decide) fun J => ?_
      simp (maxSteps := 4000000) only [go_sem, St.start, Try.ntmps25, Try.results25]
      repeat refine nx ?_
      refine z10 fun K hK => ?_
      simp (maxSteps := 4000000) only [go_sem]
      refine hK _ ?_
      clear hK K
      refine z23 [5] ?_
      simp (maxSteps := 4000000) only [go_sem]
      repeat (first | refine z12 rfl ?_ | refine z11 rfl ?_ | refine nx ?_ | (refine z10 fun K hK => ?_; simp (maxSteps := 4000000) only [go_sem]; (repeat (first | (refine ⟨_, .lent (hf := h48) (hd := rfl) (hr := rfl), ?_⟩; simp (maxSteps := 4000000) only [go_sem]) | (refine ⟨_, .lent (hf := h52) (hd := rfl) (hr := rfl), ?_⟩; simp (maxSteps := 4000000) only [go_sem]) | (refine ⟨_, .given (hf := h48) (hd := rfl) (ha := rfl), ?_⟩; simp (maxSteps := 4000000) only [go_sem]) | (refine ⟨_, .given (hf := h52) (hd := rfl) (ha := rfl), ?_⟩; simp (maxSteps := 4000000) only [go_sem]))); refine hK _ ?_; clear hK K))
      refine z10 fun K hK => ?_
      simp (maxSteps := 4000000) only [go_sem]
      refine ⟨_, .made (news := [30, 16, 17]) (hf := h41) (hd := rfl) (hn := by decide) (hl := rfl) (hnew := rfl) (hx := rfl), ?_⟩
      simp (maxSteps := 4000000) only [go_sem, List.map_cons, List.map_nil]
      refine hK _ ?_
      clear hK K
      repeat refine nx ?_
      refine z10 fun K hK => ?_
      simp (maxSteps := 4000000) only [go_sem]
      refine ⟨_, .own (ns := [30, 16, 17]) (news := []) (bads := [16, 17]) (rd := []) (hf := h55) (hnd := by decide) (hl0 := rfl) (hl1 := rfl) (hm := by repeat (first | exact trivial | refine And.intro ?_ ?_ | rfl)) (hnew := rfl) (hla := rfl) (ha := z31 (by repeat (first | exact trivial | refine And.intro ?_ ?_ | exact z35 rfl | exact z28 rfl rfl))) (hrd := rfl) (hsh := z29 _) (hb := rfl) (hfl := .inl rfl), ?_⟩
      simp (maxSteps := 4000000) only [go_sem, List.map_cons, List.map_nil]
      refine hK _ ?_
      clear hK K
      repeat refine nx ?_
      refine z17 (by kernel_rfl) (by kernel_rfl) fun K hK => ?_
      simp (maxSteps := 4000000) only [go_sem]
      refine ⟨by kernel_rfl, hK _ ?_⟩
      clear hK K
      repeat (first | refine nx ?_ | (refine z10 fun K hK => ?_; simp (maxSteps := 4000000) only [go_sem]; refine hK _ ?_; clear hK K))
      simp (maxSteps := 4000000) only [go_sem]
theorem z1074 (a b : List Int) (ha : a.length < 2 ^ 30) : Fn Try.prog 21 [.sl (intRows a), .sl (intRows b)] (.bool (decide (a = b))) := by
  refine z18 26 Try.call21 Try.func21 rfl (by decide) fun J => ?_
  simp (maxSteps := 4000000) only [go_sem, St.start, Try.ntmps21, Try.results21]
  repeat (first | refine nx ?_ | (refine z10 fun K hK => ?_; simp (maxSteps := 4000000) only [go_sem, z19]; refine hK _ ?_; clear hK K))
  by_cases hl : a.length = b.length
  · have hne : ((a.length : Int) != (b.length : Int)) = false := by simp [hl]
    simp (maxSteps := 4000000) only [go_sem, hne]
    refine z11 rfl ?_
    repeat (first | refine nx ?_ | (refine z10 fun K hK => ?_; simp (maxSteps := 4000000) only [go_sem]; refine hK _ ?_; clear hK K))
    refine z15 (fun (i : Nat) => [(5, .d (.i i))]) (fun _ => []) (fun i => i ≤ a.length ∧ a.take i = b.take i) (fun i => a.length - i) 0 ?_ ⟨Nat.zero_le _, by simp⟩ ?_
    · simp (maxSteps := 4000000) only [go_sem]
      refine z13 [] ?_ ?_ rfl rfl <;> simp [lessT, lessM, lessB, AV.less]
    · intro i ⟨hi, heq⟩
      simp (maxSteps := 4000000) only [go_sem]
      repeat (first | refine nx ?_ | (refine z10 fun K hK => ?_; simp (maxSteps := 4000000) only [go_sem, z19]; refine hK _ ?_; clear hK K))
      refine z14 rfl (fun hb => ?_) (fun hb => ?_)
      · have hlt : i < a.length := by simpa using hb
        have hw : IntKind.i64.wrap ((i : Int) + 1) = ((i + 1 : Nat) : Int) := by rw [z16 (by omega)]; simp
        obtain ⟨x, hx⟩ : ∃ x, a[i]? = some x := ⟨_, List.getElem?_eq_getElem hlt⟩
        obtain ⟨y, hy⟩ : ∃ y, b[i]? = some y := ⟨_, List.getElem?_eq_getElem (hl ▸ hlt)⟩
        have g1 := z37 hx
        have g2 := z37 hy
        repeat (first | refine nx ?_ | (refine z10 fun K hK => ?_; simp (maxSteps := 4000000) only [go_sem]; refine hK _ ?_; clear hK K))
        refine z17 (by kernel_rfl) (by kernel_rfl) fun K hK => ?_
        simp (maxSteps := 4000000) only [go_sem, g1, g2]
        refine ⟨by kernel_rfl, hK _ ?_⟩
        clear hK K
        refine z14 rfl (fun hc => ?_) (fun hc => ?_)
        · have hc : ¬ x = y := by simpa using hc
          have hab : ¬ a = b := by rintro rfl; rw [hx] at hy; cases hy; exact hc rfl
          repeat (first | refine nx ?_ | (refine z10 fun K hK => ?_; simp (maxSteps := 4000000) only [go_sem]; refine hK _ ?_; clear hK K))
          simp (maxSteps := 4000000) only [go_sem, hab]
        · have hc : x = y := by simpa using hc
          repeat (first | refine nx ?_ | (refine z10 fun K hK => ?_; simp (maxSteps := 4000000) only [go_sem, hw]; refine hK _ ?_; clear hK K))
          refine ⟨rfl, i + 1, ?_, ⟨hlt, by rw [List.take_add_one, List.take_add_one, heq, hx, hy, hc]⟩, by omega⟩
          refine z13 [] ?_ ?_ rfl rfl <;> simp [lessT, lessM, lessB, AV.less]
      · have he : i = a.length := by (have : ¬ i < a.length := by simpa using hb); omega
        subst he
        have hab : a = b := z326 hl heq
        repeat (first | refine nx ?_ | (refine z10 fun K hK => ?_; simp (maxSteps := 4000000) only [go_sem]; refine hK _ ?_; clear hK K))
        simp (maxSteps := 4000000) only [go_sem, hab]
  · have hne : ((a.length : Int) != (b.length : Int)) = true := by simp; omega
    have hab : ¬ a = b := by rintro rfl; exact hl rfl
    simp (maxSteps := 4000000) only [go_sem, hne]
    refine z12 rfl ?_
    repeat (first | refine nx ?_ | (refine z10 fun K hK => ?_; simp (maxSteps := 4000000) only [go_sem]; refine hK _ ?_; clear hK K))
    simp (maxSteps := 4000000) only [go_sem, hab]
theorem z316 {a b : List (List Int)} (hl : a.length = b.length) (h : a.take a.length = b.take a.length) : a = b := by
  rw [List.take_length, hl, List.take_length] at h
  exact h
theorem z1107 (a b : List (List Int)) (ha : a.length < 2 ^ 30) (har : ∀ r ∈ a, r.length < 2 ^ 30) : Fn Try.prog 20 [.sl (listRows a), .sl (listRows b)] (.bool (decide (a = b))) := by
  refine z18 27 Try.call20 Try.func20 rfl (by decide) fun J => ?_
  simp (maxSteps := 4000000) only [go_sem, St.start, Try.ntmps20, Try.results20]
  repeat (first | refine nx ?_ | (refine z10 fun K hK => ?_; simp (maxSteps := 4000000) only [go_sem, z20]; refine hK _ ?_; clear hK K))
  by_cases hl : a.length = b.length
  · have hne : ((a.length : Int) != (b.length : Int)) = false := by simp [hl]
    simp (maxSteps := 4000000) only [go_sem, hne]
    refine z11 rfl ?_
    repeat (first | refine nx ?_ | (refine z10 fun K hK => ?_; simp (maxSteps := 4000000) only [go_sem]; refine hK _ ?_; clear hK K))
    refine z15 (fun (i : Nat) => [(5, .d (.i i))]) (fun _ => []) (fun i => i ≤ a.length ∧ a.take i = b.take i) (fun i => a.length - i) 0 ?_ ⟨Nat.zero_le _, by simp⟩ ?_
    · simp (maxSteps := 4000000) only [go_sem]
      refine z13 [] ?_ ?_ rfl rfl <;> simp [lessT, lessM, lessB, AV.less]
    · intro i ⟨hi, heq⟩
      simp (maxSteps := 4000000) only [go_sem]
      repeat (first | refine nx ?_ | (refine z10 fun K hK => ?_; simp (maxSteps := 4000000) only [go_sem, z20]; refine hK _ ?_; clear hK K))
      refine z14 rfl (fun hb => ?_) (fun hb => ?_)
      · have hlt : i < a.length := by simpa using hb
        have hw : IntKind.i64.wrap ((i : Int) + 1) = ((i + 1 : Nat) : Int) := by rw [z16 (by omega)]; simp
        obtain ⟨x, hx⟩ : ∃ x, a[i]? = some x := ⟨_, List.getElem?_eq_getElem hlt⟩
        obtain ⟨y, hy⟩ : ∃ y, b[i]? = some y := ⟨_, List.getElem?_eq_getElem (hl ▸ hlt)⟩
        have g1 := z40 hx
        have g2 := z40 hy
        have h21 := z1074 x y (har x (List.mem_of_getElem? hx))
        by_cases hc : x = y
        · have hd : decide (x = y) = true := decide_eq_true hc
          rw [hd] at h21
          repeat (first | refine nx ?_ | (refine z10 fun K hK => ?_; simp (maxSteps := 4000000) only [go_sem]; refine hK _ ?_; clear hK K))
          refine z17 (by kernel_rfl) (by kernel_rfl) fun K hK => ?_
          simp (maxSteps := 4000000) only [go_sem, g1, g2]
          refine ⟨_, .fn (hf := h21) (hd := rfl) (hr := .inl rfl), ?_⟩
          simp (maxSteps := 4000000) only [go_sem]
          refine ⟨by kernel_rfl, hK _ ?_⟩
          clear hK K
          repeat (first | refine z12 rfl ?_ | refine z11 rfl ?_ | refine nx ?_ | (refine z10 fun K hK => ?_; simp (maxSteps := 4000000) only [go_sem, hw]; refine hK _ ?_; clear hK K))
          refine ⟨rfl, i + 1, ?_, ⟨hlt, by rw [List.take_add_one, List.take_add_one, heq, hx, hy, hc]⟩, by omega⟩
          refine z13 [] ?_ ?_ rfl rfl <;> simp [lessT, lessM, lessB, AV.less]
        · have hd : decide (x = y) = false := decide_eq_false hc
          rw [hd] at h21
          have hab : ¬ a = b := by rintro rfl; rw [hx] at hy; cases hy; exact hc rfl
          repeat (first | refine nx ?_ | (refine z10 fun K hK => ?_; simp (maxSteps := 4000000) only [go_sem]; refine hK _ ?_; clear hK K))
          refine z17 (by kernel_rfl) (by kernel_rfl) fun K hK => ?_
          simp (maxSteps := 4000000) only [go_sem, g1, g2]
          refine ⟨_, .fn (hf := h21) (hd := rfl) (hr := .inl rfl), ?_⟩
          simp (maxSteps := 4000000) only [go_sem]
          refine ⟨by kernel_rfl, hK _ ?_⟩
          clear hK K
          repeat (first | refine z12 rfl ?_ | refine z11 rfl ?_ | refine nx ?_ | (refine z10 fun K hK => ?_; simp (maxSteps := 4000000) only [go_sem]; refine hK _ ?_; clear hK K))
          simp (maxSteps := 4000000) only [go_sem, hab]
      · have he : i = a.length := by (have : ¬ i < a.length := by simpa using hb); omega
        subst he
        have hab : a = b := z316 hl heq
        repeat (first | refine nx ?_ | (refine z10 fun K hK => ?_; simp (maxSteps := 4000000) only [go_sem]; refine hK _ ?_; clear hK K))
        simp (maxSteps := 4000000) only [go_sem, hab]
  · have hne : ((a.length : Int) != (b.length : Int)) = true := by simp; omega
    have hab : ¬ a = b := by rintro rfl; exact hl rfl
    simp (maxSteps := 4000000) only [go_sem, hne]
    refine z12 rfl ?_
    repeat (first | refine nx ?_ | (refine z10 fun K hK => ?_; simp (maxSteps := 4000000) only [go_sem]; refine hK _ ?_; clear hK K))
    simp (maxSteps := 4000000) only [go_sem, hab]
end Go.Ab
namespace Go.Ab
open Go.RowKit Go.Proofs
set_option maxHeartbeats 16000000
set_option maxRecDepth 20000
attribute [local irreducible] WalkL Walk
theorem z994 : cookP exK exM [[2, 1], [2, 1], [2, 1]] = ([0, 100, 1100], 200, 3, 0) := by decide +kernel
theorem z1033 : kitE exK = 0 := by decide +kernel
theorem z927 : (planL exK 3).2 = [[0, 1], [0, 1], [1, 1]] := by decide +kernel
theorem z925 : wasteK exK = 0 := by decide +kernel
theorem z992 : planK exK = ([[0, 1], [0, 1], [1, 1]], 0, 0) := by
  have e : exK.days.length = 3 := rfl
  rw [planK, if_pos z1033, z925, if_neg (by decide), e, z927]
theorem z1158 : Fn Try.prog 13 [] (.bool true) := by
  have h39 := z1150
  have h25 := z1152 exK exM [[2, 1], [2, 1], [2, 1]] z343 (by decide) (by decide) (by decide) (by decide)
  have h17 := z1108 exK exM z343 (by decide) (by decide)
  have h15 := z1109 exK z343
  have h21a := z1074 [0, 100, 1100] [0, 100, 1100] (by decide)
  have h21b := z1074 [300, 0] [300, 0] (by decide)
  have h20 := z1107 [[0, 1], [0, 1], [1, 1]] [[0, 1], [0, 1], [1, 1]] (by decide) (by decide)
  rw [z994] at h25
  rw [z992] at h15
  rw [z993, if_pos rfl, z926] at h17
  rw [show decide (([0, 100, 1100] : List Int) = [0, 100, 1100]) = true by decide] at h21a
  rw [show decide (([300, 0] : List Int) = [300, 0]) = true by decide] at h21b
  rw [show decide (([[0, 1], [0, 1], [1, 1]] : List (List Int)) = [[0, 1], [0, 1], [1, 1]]) = true by decide] at h20
  rw [Kitchen.cells] at h39 h25 h17 h15
  refine z18 80 Try.call13 Try.func13 rfl (by decide) fun J => ?_
  simp (maxSteps := 4000000) only [go_sem, St.start, Try.ntmps13, Try.results13]
  repeat (first | refine z12 rfl ?_ | refine z11 rfl ?_ | refine nx ?_ | (refine z10 fun K hK => ?_; simp (maxSteps := 4000000) only [go_sem]; (repeat (first | (refine ⟨_, .lent (hf := h39) (hd := rfl) (hr := rfl), ?_⟩; simp (maxSteps := 4000000) only [go_sem]) | (refine ⟨_, .lent (hf := h25) (hd := rfl) (hr := rfl), ?_⟩; simp (maxSteps := 4000000) only [go_sem]) | (refine ⟨_, .lent (hf := h17) (hd := rfl) (hr := rfl), ?_⟩; simp (maxSteps := 4000000) only [go_sem]) | (refine ⟨_, .lent (hf := h15) (hd := rfl) (hr := rfl), ?_⟩; simp (maxSteps := 4000000) only [go_sem]) | (refine ⟨_, .lent (hf := h21a) (hd := rfl) (hr := rfl), ?_⟩; simp (maxSteps := 4000000) only [go_sem]) | (refine ⟨_, .lent (hf := h21b) (hd := rfl) (hr := rfl), ?_⟩; simp (maxSteps := 4000000) only [go_sem]) | (refine ⟨_, .lent (hf := h20) (hd := rfl) (hr := rfl), ?_⟩; simp (maxSteps := 4000000) only [go_sem]) | (refine ⟨_, .given (hf := h39) (hd := rfl) (ha := rfl), ?_⟩; simp (maxSteps := 4000000) only [go_sem]) | (refine ⟨_, .given (hf := h25) (hd := rfl) (ha := rfl), ?_⟩; simp (maxSteps := 4000000) only [go_sem]) | (refine ⟨_, .given (hf := h17) (hd := rfl) (ha := rfl), ?_⟩; simp (maxSteps := 4000000) only [go_sem]) | (refine ⟨_, .given (hf := h15) (hd := rfl) (ha := rfl), ?_⟩; simp (maxSteps := 4000000) only [go_sem]) | (refine ⟨_, .given (hf := h21a) (hd := rfl) (ha := rfl), ?_⟩; simp (maxSteps := 4000000) only [go_sem]) | (refine ⟨_, .given (hf := h21b) (hd := rfl) (ha := rfl), ?_⟩; simp (maxSteps := 4000000) only [go_sem]) | (refine ⟨_, .given (hf := h20) (hd := rfl) (ha := rfl), ?_⟩; simp (maxSteps := 4000000) only [go_sem]))); refine hK _ ?_; clear hK K))
  simp (maxSteps := 4000000) only [go_sem]
end Go.Ab
namespace Go.Ab
open Go.RowKit Go.Proofs
set_option maxHeartbeats 8000000
set_option maxRecDepth 20000
attribute [local irreducible] WalkL Walk
theorem z854 (n lo hi : Int) : Fn Try.prog 51 [.i n, .i lo, .i hi] (.bool (withinB n lo hi)) := by
  unfold withinB
  refine z18 15 Try.call51 Try.func51 rfl (by decide) fun J => ?_
  simp (maxSteps := 4000000) only [go_sem, St.start, Try.ntmps51, Try.results51]
  cases q : decide (lo ≤ n)
  · repeat (first | refine nx ?_ | (refine z10 fun K hK => ?_; simp (maxSteps := 4000000) only [go_sem, q]; refine hK _ ?_; clear hK K))
    simp (maxSteps := 4000000) only [go_sem, Bool.false_and]
  · repeat (first | refine nx ?_ | (refine z10 fun K hK => ?_; simp (maxSteps := 4000000) only [go_sem, q]; refine hK _ ?_; clear hK K))
    simp (maxSteps := 4000000) only [go_sem, Bool.true_and]
theorem z1142 (k : Kitchen) (b : Batch) (hg : k.allerg.length < 2 ^ 30) : Fn Try.prog 60 [.agg k.cells, .agg b.row] (.bool (batchB k.allerg.length b)) := by
  have h1 := z854 b.good 0 ((k.allerg.length : Int) - 1)
  have h2 := z854 b.amount 0 1000000
  have h3 := z854 b.last 0 30
  have w : IntKind.i64.wrap ((k.allerg.length : Int) - 1) = (k.allerg.length : Int) - 1 := z16 (by omega)
  unfold batchB
  obtain ⟨b1, e1⟩ : ∃ x, x = withinB b.good 0 ((k.allerg.length : Int) - 1) := ⟨_, rfl⟩
  obtain ⟨b2, e2⟩ : ∃ x, x = withinB b.amount 0 1000000 := ⟨_, rfl⟩
  obtain ⟨b3, e3⟩ : ∃ x, x = withinB b.last 0 30 := ⟨_, rfl⟩
  rw [← e1] at h1 ⊢
  rw [← e2] at h2 ⊢
  rw [← e3] at h3 ⊢
  refine z18 22 Try.call60 Try.func60 rfl (by decide) fun J => ?_
  simp (maxSteps := 4000000) only [go_sem, St.start, Try.ntmps60, Try.results60, Batch.row, Kitchen.cells]
  cases b1 <;> cases b2
  all_goals
    repeat (first | refine nx ?_ | (refine z10 fun K hK => ?_; simp (maxSteps := 4000000) only [go_sem, w]; (repeat (first | (refine ⟨_, .lent (hf := h1) (hd := rfl) (hr := rfl), ?_⟩; simp (maxSteps := 4000000) only [go_sem, w]) | (refine ⟨_, .lent (hf := h2) (hd := rfl) (hr := rfl), ?_⟩; simp (maxSteps := 4000000) only [go_sem, w]) | (refine ⟨_, .lent (hf := h3) (hd := rfl) (hr := rfl), ?_⟩; simp (maxSteps := 4000000) only [go_sem, w]) | (refine ⟨_, .given (hf := h1) (hd := rfl) (ha := rfl), ?_⟩; simp (maxSteps := 4000000) only [go_sem, w]) | (refine ⟨_, .given (hf := h2) (hd := rfl) (ha := rfl), ?_⟩; simp (maxSteps := 4000000) only [go_sem, w]) | (refine ⟨_, .given (hf := h3) (hd := rfl) (ha := rfl), ?_⟩; simp (maxSteps := 4000000) only [go_sem, w]))); refine hK _ ?_; clear hK K))
    simp (maxSteps := 4000000) only [go_sem, Bool.false_and, Bool.true_and]
theorem z1141 (k : Kitchen) (d : Dish) (hg : k.allerg.length < 2 ^ 30) (hd : d.needs.length < 2 ^ 30) : Fn Try.prog 61 [.agg k.cells, .agg d.row] (.bool (dishB k.allerg.length d)) := by
  unfold dishB
  obtain ⟨R, hR⟩ : ∃ R, R = (((d.needs.length : Int) == (k.allerg.length : Int)) && d.needs.all needB) := ⟨_, rfl⟩
  rw [← hR]
  obtain ⟨N, hN⟩ : ∃ N, N = d.needs := ⟨_, rfl⟩
  rw [← hN] at hd hR
  refine z18 27 Try.call61 Try.func61 rfl (by decide) fun J => ?_
  simp (maxSteps := 4000000) only [go_sem, St.start, Try.ntmps61, Try.results61, Dish.row, Kitchen.cells]
  rw [← hN]
  repeat (first | refine nx ?_ | (refine z10 fun K hK => ?_; simp (maxSteps := 4000000) only [go_sem]; refine hK _ ?_; clear hK K))
  refine z15 (fun (i : Nat) => [(5, .d (.i (i : Int)))]) (fun _ => []) (fun i => i ≤ N.length ∧ N.all needB = (N.drop i).all needB) (fun i => N.length - i) 0 ?_ ⟨Nat.zero_le _, rfl⟩ ?_
  · simp (maxSteps := 4000000) only [go_sem]
    refine z13 [] ?_ ?_ rfl rfl <;> simp [lessT, lessM, lessB, AV.less]
  · rintro i ⟨hi, z45⟩
    simp (maxSteps := 4000000) only [go_sem]
    repeat (first | refine nx ?_ | (refine z10 fun K hK => ?_; simp (maxSteps := 4000000) only [go_sem]; refine hK _ ?_; clear hK K))
    refine z14 rfl (fun hb => ?_) (fun hb => ?_)
    · have hlt : i < N.length := by simpa using hb
      have hw : IntKind.i64.wrap ((i : Int) + 1) = ((i + 1 : Nat) : Int) := by rw [z16 (by omega)]; simp
      obtain ⟨x, hx⟩ : ∃ x, N[i]? = some x := ⟨_, List.getElem?_eq_getElem hlt⟩
      have g1 := z37 hx
      have hni : ¬ ((i : Int) < 0) := by omega
      have hc := z854 x 0 5000
      rw [z25 hx, List.all_cons] at z45
      cases q : needB x
      · rw [q, Bool.false_and] at z45
        rw [z45, Bool.and_false] at hR
        rw [needB] at q
        rw [q] at hc
        repeat (first | refine z12 rfl ?_ | refine z11 rfl ?_ | refine nx ?_ | (refine z10 fun K hK => ?_; simp (maxSteps := 4000000) only [go_sem, g1, hni]; (repeat (first | (refine ⟨_, .lent (hf := hc) (hd := rfl) (hr := rfl), ?_⟩; simp (maxSteps := 4000000) only [go_sem, g1, hni]) | (refine ⟨_, .given (hf := hc) (hd := rfl) (ha := rfl), ?_⟩; simp (maxSteps := 4000000) only [go_sem, g1, hni]))); refine hK _ ?_; clear hK K))
        simp (maxSteps := 4000000) only [go_sem, hR]
      · rw [q, Bool.true_and] at z45
        rw [needB] at q
        rw [q] at hc
        repeat (first | refine z12 rfl ?_ | refine z11 rfl ?_ | refine nx ?_ | (refine z10 fun K hK => ?_; simp (maxSteps := 4000000) only [go_sem, g1, hni, hw]; (repeat (first | (refine ⟨_, .lent (hf := hc) (hd := rfl) (hr := rfl), ?_⟩; simp (maxSteps := 4000000) only [go_sem, g1, hni, hw]) | (refine ⟨_, .given (hf := hc) (hd := rfl) (ha := rfl), ?_⟩; simp (maxSteps := 4000000) only [go_sem, g1, hni, hw]))); refine hK _ ?_; clear hK K))
        refine ⟨rfl, i + 1, ?_, ⟨hlt, z45⟩, by omega⟩
        refine z13 [] ?_ ?_ rfl rfl <;> simp [lessT, lessM, lessB, AV.less]
    · have he : i = N.length := by (have : ¬ i < N.length := by simpa using hb); omega
      subst he
      rw [List.drop_length, List.all_nil] at z45
      rw [z45, Bool.and_true] at hR
      repeat (first | refine nx ?_ | (refine z10 fun K hK => ?_; simp (maxSteps := 4000000) only [go_sem]; refine hK _ ?_; clear hK K))
      simp (maxSteps := 4000000) only [go_sem, hR]
def badK1 (k : Kitchen) : Bool := !withinB (k.allerg.length : Int) 1 6 || (decide ((k.batches.length : Int) > 10) || (!withinB (k.dishes.length : Int) 1 5 || !withinB (k.days.length : Int) 1 6))
theorem z982 {k : Kitchen} (h : badKit k = true) : kitE k = 70 := by rw [kitE, h]; rfl
theorem z911 {k : Kitchen} (h : badKit k = false) : kitE k = 0 := by rw [kitE, h]; rfl
def badG (g : Diners) : Bool := !withinB g.no 0 255 || (!withinB g.count.lo 0 g.count.hi || decide (g.count.hi > 100))
theorem z917 (g : Diners) : groupB g = !badG g := by
  unfold groupB badG setB withinB
  rw [Bool.eq_iff_iff]
  simp
  intro _ _
  exact and_assoc.symm
theorem z1086 (k : Kitchen) (hs : KitSmall k) : Fn Try.prog 32 [.agg k.cells] (.i (kitE k)) := by
  have a1 := hs.allerg
  have h1 := z854 (k.allerg.length : Int) 1 6
  have h5 := z854 (k.dishes.length : Int) 1 5
  have h7 := z854 (k.days.length : Int) 1 6
  have h92 := fun b => z1142 k b a1
  have h93 := fun d hd => z1141 k d a1 hd
  have a2 := hs.batches
  have a3 := hs.dishes
  have a4 := hs.needs
  have a5 := hs.days
  have a6 := hs.groups
  have kB : badKit k = (badK1 k || (!k.allerg.all setB || (!k.batches.all (batchB k.allerg.length) || (!k.dishes.all (dishB k.allerg.length) || !k.days.all dayB)))) := by
    unfold badKit badK1
    cases withinB (k.allerg.length : Int) 1 6 <;> cases decide ((k.batches.length : Int) > 10) <;> cases withinB (k.dishes.length : Int) 1 5 <;> cases withinB (k.days.length : Int) 1 6 <;> simp
  have kb := @z982 k
  have kg := @z911 k
  rw [kB] at kb kg
  obtain ⟨E, hE⟩ : ∃ E, E = kitE k := ⟨_, rfl⟩
  rw [← hE] at kb kg ⊢
  rw [Kitchen.cells] at h92 h93
  refine z18 130 Try.call32 Try.func32 rfl (by decide) fun J => ?_
  simp (maxSteps := 4000000) only [go_sem, St.start, Try.ntmps32, Try.results32, Kitchen.cells]
  repeat (first | refine nx ?_ | (refine z10 fun K hK => ?_; simp (maxSteps := 4000000) only [go_sem]; refine hK _ ?_; clear hK K))
  refine z137 [(33, .d (.bool (badK1 k)))] [] ?_ ?_
  · refine z10 fun K hK => ?_
    simp (maxSteps := 4000000) only [go_sem]
    refine ⟨_, .lent (hf := h1) (hd := rfl) (hr := rfl), ?_⟩
    simp (maxSteps := 4000000) only [go_sem]
    by_cases ho0 : (!withinB (k.allerg.length : Int) 1 6) = true
    · simp (maxSteps := 4000000) only [go_sem, ho0]
      refine hK _ ?_
      clear hK K
      refine z32 ?_
      refine z24 ?_
      refine ⟨rfl, ?_⟩
      rw [show (badK1 k) = (true) from by simp [badK1, ho0]]
      simp (maxSteps := 4000000) only [go_sem]
      refine z13 [] ?_ ?_ rfl rfl <;> simp [lessT, lessM, lessB, AV.less]
    · simp (maxSteps := 4000000) only [go_sem, ho0]
      by_cases ho1 : (decide ((k.batches.length : Int) > 10)) = true
      · simp (maxSteps := 4000000) only [go_sem, ho0, ho1]
        refine hK _ ?_
        clear hK K
        refine z32 ?_
        refine z24 ?_
        refine ⟨rfl, ?_⟩
        rw [show (badK1 k) = (true) from by simp [badK1, ho0, ho1]]
        simp (maxSteps := 4000000) only [go_sem]
        refine z13 [] ?_ ?_ rfl rfl <;> simp [lessT, lessM, lessB, AV.less]
      · simp (maxSteps := 4000000) only [go_sem, ho0, ho1]
        refine ⟨_, .lent (hf := h5) (hd := rfl) (hr := rfl), ?_⟩
        simp (maxSteps := 4000000) only [go_sem, ho0, ho1]
        by_cases ho2 : (!withinB (k.dishes.length : Int) 1 5) = true
        · simp (maxSteps := 4000000) only [go_sem, ho0, ho1, ho2]
          refine hK _ ?_
          clear hK K
          refine z32 ?_
          refine z24 ?_
          refine ⟨rfl, ?_⟩
          rw [show (badK1 k) = (true) from by simp [badK1, ho0, ho1, ho2]]
          simp (maxSteps := 4000000) only [go_sem]
          refine z13 [] ?_ ?_ rfl rfl <;> simp [lessT, lessM, lessB, AV.less]
        · simp (maxSteps := 4000000) only [go_sem, ho0, ho1, ho2]
          refine ⟨_, .lent (hf := h7) (hd := rfl) (hr := rfl), ?_⟩
          simp (maxSteps := 4000000) only [go_sem, ho0, ho1, ho2]
          refine hK _ ?_
          clear hK K
          refine z32 ?_
          refine z24 ?_
          refine ⟨rfl, ?_⟩
          rw [show (badK1 k) = (!withinB (k.days.length : Int) 1 6) from by simp [badK1, ho0, ho1, ho2]]
          simp (maxSteps := 4000000) only [go_sem]
          refine z13 [] ?_ ?_ rfl rfl <;> simp [lessT, lessM, lessB, AV.less]
  simp (maxSteps := 4000000) only [go_sem]
  repeat (first | refine nx ?_ | (refine z10 fun K hK => ?_; simp (maxSteps := 4000000) only [go_sem]; refine hK _ ?_; clear hK K))
  refine z14 rfl (fun hc => ?_) (fun hc => ?_)
  · rw [hc, Bool.true_or] at kb
    have kb := kb rfl
    subst kb
    rw [hc]
    repeat (first | refine nx ?_ | (refine z10 fun K hK => ?_; simp (maxSteps := 4000000) only [go_sem]; refine hK _ ?_; clear hK K))
    simp (maxSteps := 4000000) only [go_sem, if_true]
  · rw [hc, Bool.false_or] at kb kg
    rw [hc]
    repeat (first | refine nx ?_ | (refine z10 fun K hK => ?_; simp (maxSteps := 4000000) only [go_sem]; refine hK _ ?_; clear hK K))
    refine z15 (fun (i : Nat) => [(3, .d (.i (i : Int)))]) (fun _ => []) (fun i => i ≤ k.allerg.length ∧ k.allerg.all (setB) = (k.allerg.drop i).all (setB)) (fun i => k.allerg.length - i) 0 ?_ ⟨Nat.zero_le _, rfl⟩ ?_
    · simp (maxSteps := 4000000) only [go_sem]
      refine z13 [] ?_ ?_ rfl rfl <;> simp [lessT, lessM, lessB, AV.less]
    · rintro i ⟨hi, z45⟩
      simp (maxSteps := 4000000) only [go_sem]
      repeat (first | refine nx ?_ | (refine z10 fun K hK => ?_; simp (maxSteps := 4000000) only [go_sem]; refine hK _ ?_; clear hK K))
      refine z14 rfl (fun hb => ?_) (fun hb => ?_)
      · have hlt : i < k.allerg.length := by simpa using hb
        have hw : IntKind.i64.wrap ((i : Int) + 1) = ((i + 1 : Nat) : Int) := by rw [z16 (by omega)]; simp
        obtain ⟨x, hx⟩ : ∃ x, k.allerg[i]? = some x := ⟨_, List.getElem?_eq_getElem hlt⟩
        have g1 := z37 hx
        have hni : ¬ ((i : Int) < 0) := by omega
        have hc := z854 x 0 255
        rw [z25 hx, List.all_cons] at z45
        cases q : (setB) x
        · rw [q, Bool.false_and] at z45
          rw [z45] at kb
          have kb := kb rfl
          subst kb
          rw [setB] at q
          rw [q] at hc
          repeat (first | refine z12 rfl ?_ | refine z11 rfl ?_ | refine nx ?_ | (refine z10 fun K hK => ?_; simp (maxSteps := 4000000) only [go_sem, g1, hni]; (repeat (first | (refine ⟨_, .lent (hf := hc) (hd := rfl) (hr := rfl), ?_⟩; simp (maxSteps := 4000000) only [go_sem, g1, hni]) | (refine ⟨_, .given (hf := hc) (hd := rfl) (ha := rfl), ?_⟩; simp (maxSteps := 4000000) only [go_sem, g1, hni]))); refine hK _ ?_; clear hK K))
          simp (maxSteps := 4000000) only [go_sem]
        · rw [q, Bool.true_and] at z45
          rw [setB] at q
          rw [q] at hc
          repeat (first | refine z12 rfl ?_ | refine z11 rfl ?_ | refine nx ?_ | (refine z10 fun K hK => ?_; simp (maxSteps := 4000000) only [go_sem, g1, hni, hw]; (repeat (first | (refine ⟨_, .lent (hf := hc) (hd := rfl) (hr := rfl), ?_⟩; simp (maxSteps := 4000000) only [go_sem, g1, hni, hw]) | (refine ⟨_, .given (hf := hc) (hd := rfl) (ha := rfl), ?_⟩; simp (maxSteps := 4000000) only [go_sem, g1, hni, hw]))); refine hK _ ?_; clear hK K))
          refine ⟨rfl, i + 1, ?_, ⟨hlt, z45⟩, by omega⟩
          refine z13 [] ?_ ?_ rfl rfl <;> simp [lessT, lessM, lessB, AV.less]
      · have he : i = k.allerg.length := by (have : ¬ i < k.allerg.length := by simpa using hb); omega
        subst he
        rw [List.drop_length, List.all_nil] at z45
        rw [z45, Bool.not_true, Bool.false_or] at kb kg
        clear z45
        repeat (first | refine nx ?_ | (refine z10 fun K hK => ?_; simp (maxSteps := 4000000) only [go_sem]; refine hK _ ?_; clear hK K))
        refine z15 (fun (i : Nat) => [(4, .d (.i (i : Int)))]) (fun _ => []) (fun i => i ≤ k.batches.length ∧ k.batches.all (batchB k.allerg.length) = (k.batches.drop i).all (batchB k.allerg.length)) (fun i => k.batches.length - i) 0 ?_ ⟨Nat.zero_le _, rfl⟩ ?_
        · simp (maxSteps := 4000000) only [go_sem]
          refine z13 [] ?_ ?_ rfl rfl <;> simp [lessT, lessM, lessB, AV.less]
        · rintro i ⟨hi, z45⟩
          simp (maxSteps := 4000000) only [go_sem]
          repeat (first | refine nx ?_ | (refine z10 fun K hK => ?_; simp (maxSteps := 4000000) only [go_sem]; refine hK _ ?_; clear hK K))
          refine z14 rfl (fun hb => ?_) (fun hb => ?_)
          · have hlt : i < k.batches.length := by simpa using hb
            have hw : IntKind.i64.wrap ((i : Int) + 1) = ((i + 1 : Nat) : Int) := by rw [z16 (by omega)]; simp
            obtain ⟨x, hx⟩ : ∃ x, k.batches[i]? = some x := ⟨_, List.getElem?_eq_getElem hlt⟩
            have g1 := z268 hx
            have hni : ¬ ((i : Int) < 0) := by omega
            have hc := h92 x
            rw [Batch.row] at g1 hc
            rw [z25 hx, List.all_cons] at z45
            cases q : (batchB k.allerg.length) x
            · rw [q, Bool.false_and] at z45
              rw [z45] at kb
              have kb := kb rfl
              subst kb
              skip
              rw [q] at hc
              repeat (first | refine nx ?_ | (refine z10 fun K hK => ?_; simp (maxSteps := 4000000) only [go_sem]; refine hK _ ?_; clear hK K))
              refine z17 (by kernel_rfl) (by kernel_rfl) fun K hK => ?_
              simp (maxSteps := 4000000) only [go_sem, g1, hni]
              refine ⟨_, .fn (hf := hc) (hd := rfl) (hr := .inl rfl), ?_⟩
              simp (maxSteps := 4000000) only [go_sem]
              refine ⟨by kernel_rfl, hK _ ?_⟩
              clear hK K
              repeat (first | refine z12 rfl ?_ | refine z11 rfl ?_ | refine nx ?_ | (refine z10 fun K hK => ?_; simp (maxSteps := 4000000) only [go_sem]; refine hK _ ?_; clear hK K))
              simp (maxSteps := 4000000) only [go_sem]
            · rw [q, Bool.true_and] at z45
              skip
              rw [q] at hc
              repeat (first | refine nx ?_ | (refine z10 fun K hK => ?_; simp (maxSteps := 4000000) only [go_sem]; refine hK _ ?_; clear hK K))
              refine z17 (by kernel_rfl) (by kernel_rfl) fun K hK => ?_
              simp (maxSteps := 4000000) only [go_sem, g1, hni]
              refine ⟨_, .fn (hf := hc) (hd := rfl) (hr := .inl rfl), ?_⟩
              simp (maxSteps := 4000000) only [go_sem]
              refine ⟨by kernel_rfl, hK _ ?_⟩
              clear hK K
              repeat (first | refine z12 rfl ?_ | refine z11 rfl ?_ | refine nx ?_ | (refine z10 fun K hK => ?_; simp (maxSteps := 4000000) only [go_sem, hw]; refine hK _ ?_; clear hK K))
              refine ⟨rfl, i + 1, ?_, ⟨hlt, z45⟩, by omega⟩
              refine z13 [] ?_ ?_ rfl rfl <;> simp [lessT, lessM, lessB, AV.less]
          · have he : i = k.batches.length := by (have : ¬ i < k.batches.length := by simpa using hb); omega
            subst he
            rw [List.drop_length, List.all_nil] at z45
            rw [z45, Bool.not_true, Bool.false_or] at kb kg
            clear z45
            repeat (first | refine nx ?_ | (refine z10 fun K hK => ?_; simp (maxSteps := 4000000) only [go_sem]; refine hK _ ?_; clear hK K))
            refine z15 (fun (i : Nat) => [(5, .d (.i (i : Int)))]) (fun _ => []) (fun i => i ≤ k.dishes.length ∧ k.dishes.all (dishB k.allerg.length) = (k.dishes.drop i).all (dishB k.allerg.length)) (fun i => k.dishes.length - i) 0 ?_ ⟨Nat.zero_le _, rfl⟩ ?_
            · simp (maxSteps := 4000000) only [go_sem]
              refine z13 [] ?_ ?_ rfl rfl <;> simp [lessT, lessM, lessB, AV.less]
            · rintro i ⟨hi, z45⟩
              simp (maxSteps := 4000000) only [go_sem]
              repeat (first | refine nx ?_ | (refine z10 fun K hK => ?_; simp (maxSteps := 4000000) only [go_sem]; refine hK _ ?_; clear hK K))
              refine z14 rfl (fun hb => ?_) (fun hb => ?_)
              · have hlt : i < k.dishes.length := by simpa using hb
                have hw : IntKind.i64.wrap ((i : Int) + 1) = ((i + 1 : Nat) : Int) := by rw [z16 (by omega)]; simp
                obtain ⟨x, hx⟩ : ∃ x, k.dishes[i]? = some x := ⟨_, List.getElem?_eq_getElem hlt⟩
                have g1 := z108 hx
                have hni : ¬ ((i : Int) < 0) := by omega
                have hc := h93 x (a4 x (List.mem_of_getElem? hx))
                rw [Dish.row] at g1 hc
                rw [z25 hx, List.all_cons] at z45
                cases q : (dishB k.allerg.length) x
                · rw [q, Bool.false_and] at z45
                  rw [z45] at kb
                  have kb := kb rfl
                  subst kb
                  skip
                  rw [q] at hc
                  repeat (first | refine nx ?_ | (refine z10 fun K hK => ?_; simp (maxSteps := 4000000) only [go_sem]; refine hK _ ?_; clear hK K))
                  refine z17 (by kernel_rfl) (by kernel_rfl) fun K hK => ?_
                  simp (maxSteps := 4000000) only [go_sem, g1, hni]
                  refine ⟨_, .fn (hf := hc) (hd := rfl) (hr := .inl rfl), ?_⟩
                  simp (maxSteps := 4000000) only [go_sem]
                  refine ⟨by kernel_rfl, hK _ ?_⟩
                  clear hK K
                  repeat (first | refine z12 rfl ?_ | refine z11 rfl ?_ | refine nx ?_ | (refine z10 fun K hK => ?_; simp (maxSteps := 4000000) only [go_sem]; refine hK _ ?_; clear hK K))
                  simp (maxSteps := 4000000) only [go_sem]
                · rw [q, Bool.true_and] at z45
                  skip
                  rw [q] at hc
                  repeat (first | refine nx ?_ | (refine z10 fun K hK => ?_; simp (maxSteps := 4000000) only [go_sem]; refine hK _ ?_; clear hK K))
                  refine z17 (by kernel_rfl) (by kernel_rfl) fun K hK => ?_
                  simp (maxSteps := 4000000) only [go_sem, g1, hni]
                  refine ⟨_, .fn (hf := hc) (hd := rfl) (hr := .inl rfl), ?_⟩
                  simp (maxSteps := 4000000) only [go_sem]
                  refine ⟨by kernel_rfl, hK _ ?_⟩
                  clear hK K
                  repeat (first | refine z12 rfl ?_ | refine z11 rfl ?_ | refine nx ?_ | (refine z10 fun K hK => ?_; simp (maxSteps := 4000000) only [go_sem, hw]; refine hK _ ?_; clear hK K))
                  refine ⟨rfl, i + 1, ?_, ⟨hlt, z45⟩, by omega⟩
                  refine z13 [] ?_ ?_ rfl rfl <;> simp [lessT, lessM, lessB, AV.less]
              · have he : i = k.dishes.length := by (have : ¬ i < k.dishes.length := by simpa using hb); omega
                subst he
                rw [List.drop_length, List.all_nil] at z45
                rw [z45, Bool.not_true, Bool.false_or] at kb kg
                clear z45
                repeat (first | refine nx ?_ | (refine z10 fun K hK => ?_; simp (maxSteps := 4000000) only [go_sem]; refine hK _ ?_; clear hK K))
                refine z15 (fun (i : Nat) => [(6, .d (.i (i : Int))), (7, .undef), (8, .undef)]) (fun _ => []) (fun i => i ≤ k.days.length ∧ k.days.all dayB = (k.days.drop i).all dayB) (fun i => k.days.length - i) 0 ?_ ⟨Nat.zero_le _, rfl⟩ ?_
                · simp (maxSteps := 4000000) only [go_sem]
                  refine z13 [] ?_ ?_ rfl rfl <;> simp [lessT, lessM, lessB, AV.less]
                · rintro i ⟨hi, z45⟩
                  simp (maxSteps := 4000000) only [go_sem]
                  repeat (first | refine nx ?_ | (refine z10 fun K hK => ?_; simp (maxSteps := 4000000) only [go_sem]; refine hK _ ?_; clear hK K))
                  refine z14 rfl (fun hb => ?_) (fun hb => ?_)
                  · have hlt : i < k.days.length := by simpa using hb
                    have hw : IntKind.i64.wrap ((i : Int) + 1) = ((i + 1 : Nat) : Int) := by rw [z16 (by omega)]; simp
                    obtain ⟨x, hx⟩ : ∃ x, k.days[i]? = some x := ⟨_, List.getElem?_eq_getElem hlt⟩
                    have g1 := z69 hx
                    have hni : ¬ ((i : Int) < 0) := by omega
                    have hxl := a6 x (List.mem_of_getElem? hx)
                    rw [z25 hx, List.all_cons, dayB] at z45
                    cases q : decide ((x.length : Int) > 3)
                    · have q2 : decide ((x.length : Int) ≤ 3) = true := by simp at q ⊢; omega
                      rw [q2, Bool.true_and] at z45
                      have hx3 : x.length ≤ 3 := by simp at q2; omega
                      repeat (first | refine z12 rfl ?_ | refine z11 rfl ?_ | refine nx ?_ | (refine z10 fun K hK => ?_; simp (maxSteps := 4000000) only [go_sem, g1, hni, q]; refine hK _ ?_; clear hK K))
                      refine z15 (fun (j : Nat) => [(7, .d (.i (j : Int))), (8, .undef)]) (fun _ => []) (fun j => j ≤ x.length ∧ k.days.all dayB = ((x.drop j).all groupB && (k.days.drop (i + 1)).all dayB)) (fun j => x.length - j) 0 ?_ ⟨Nat.zero_le _, z45⟩ ?_
                      · simp (maxSteps := 4000000) only [go_sem]
                        refine z13 [] ?_ ?_ rfl rfl <;> simp [lessT, lessM, lessB, AV.less]
                      · rintro j ⟨hj, hallj⟩
                        simp (maxSteps := 4000000) only [go_sem]
                        repeat (first | refine nx ?_ | (refine z10 fun K hK => ?_; simp (maxSteps := 4000000) only [go_sem, g1, hni]; refine hK _ ?_; clear hK K))
                        refine z14 rfl (fun hb => ?_) (fun hb => ?_)
                        · have hltj : j < x.length := by simpa using hb
                          have hwj : IntKind.i64.wrap ((j : Int) + 1) = ((j + 1 : Nat) : Int) := by rw [z16 (by omega)]; simp
                          obtain ⟨y, hy⟩ : ∃ y, x[j]? = some y := ⟨_, List.getElem?_eq_getElem hltj⟩
                          have g3 := z68 hy
                          rw [Diners.row] at g3
                          have hnj : ¬ ((j : Int) < 0) := by omega
                          have c1 := z854 y.no 0 255
                          have c2 := z854 y.count.lo 0 y.count.hi
                          rw [z25 hy, List.all_cons, z917] at hallj
                          repeat (first | refine nx ?_ | (refine z10 fun K hK => ?_; simp (maxSteps := 4000000) only [go_sem, g1, hni, g3, hnj]; refine hK _ ?_; clear hK K))
                          refine z137 [(129, .d (.bool (badG y)))] [] ?_ ?_
                          · refine z10 fun K hK => ?_
                            simp (maxSteps := 4000000) only [go_sem]
                            refine ⟨_, .lent (hf := c1) (hd := rfl) (hr := rfl), ?_⟩
                            simp (maxSteps := 4000000) only [go_sem]
                            by_cases ho0 : (!withinB y.no 0 255) = true
                            · simp (maxSteps := 4000000) only [go_sem, ho0]
                              refine hK _ ?_
                              clear hK K
                              refine z32 ?_
                              refine z24 ?_
                              refine ⟨rfl, ?_⟩
                              rw [show (badG y) = (true) from by simp [badG, ho0]]
                              simp (maxSteps := 4000000) only [go_sem]
                              refine z13 [] ?_ ?_ rfl rfl <;> simp [lessT, lessM, lessB, AV.less]
                            · simp (maxSteps := 4000000) only [go_sem, ho0]
                              refine ⟨_, .lent (hf := c2) (hd := rfl) (hr := rfl), ?_⟩
                              simp (maxSteps := 4000000) only [go_sem, ho0]
                              by_cases ho1 : (!withinB y.count.lo 0 y.count.hi) = true
                              · simp (maxSteps := 4000000) only [go_sem, ho0, ho1]
                                refine hK _ ?_
                                clear hK K
                                refine z32 ?_
                                refine z24 ?_
                                refine ⟨rfl, ?_⟩
                                rw [show (badG y) = (true) from by simp [badG, ho0, ho1]]
                                simp (maxSteps := 4000000) only [go_sem]
                                refine z13 [] ?_ ?_ rfl rfl <;> simp [lessT, lessM, lessB, AV.less]
                              · simp (maxSteps := 4000000) only [go_sem, ho0, ho1]
                                refine hK _ ?_
                                clear hK K
                                refine z32 ?_
                                refine z24 ?_
                                refine ⟨rfl, ?_⟩
                                rw [show (badG y) = (decide (y.count.hi > 100)) from by simp [badG, ho0, ho1]]
                                simp (maxSteps := 4000000) only [go_sem]
                                refine z13 [] ?_ ?_ rfl rfl <;> simp [lessT, lessM, lessB, AV.less]
                          simp (maxSteps := 4000000) only [go_sem]
                          repeat (first | refine nx ?_ | (refine z10 fun K hK => ?_; simp (maxSteps := 4000000) only [go_sem]; refine hK _ ?_; clear hK K))
                          refine z14 rfl (fun hc => ?_) (fun hc => ?_)
                          · rw [hc, Bool.not_true, Bool.false_and, Bool.false_and] at hallj
                            rw [hallj] at kb
                            have kb := kb rfl
                            subst kb
                            rw [hc]
                            repeat (first | refine nx ?_ | (refine z10 fun K hK => ?_; simp (maxSteps := 4000000) only [go_sem]; refine hK _ ?_; clear hK K))
                            simp (maxSteps := 4000000) only [go_sem, if_true]
                          · rw [hc, Bool.not_false, Bool.true_and] at hallj
                            rw [hc]
                            repeat (first | refine nx ?_ | (refine z10 fun K hK => ?_; simp (maxSteps := 4000000) only [go_sem, hwj]; refine hK _ ?_; clear hK K))
                            refine ⟨rfl, j + 1, ?_, ⟨hltj, hallj⟩, by omega⟩
                            refine z13 [] ?_ ?_ rfl rfl <;> simp [lessT, lessM, lessB, AV.less]
                        · have he : j = x.length := by (have : ¬ j < x.length := by simpa using hb); omega
                          subst he
                          rw [List.drop_length, List.all_nil, Bool.true_and] at hallj
                          repeat (first | refine nx ?_ | (refine z10 fun K hK => ?_; simp (maxSteps := 4000000) only [go_sem, hw]; refine hK _ ?_; clear hK K))
                          refine ⟨rfl, i + 1, ?_, ⟨hlt, hallj⟩, by omega⟩
                          refine z13 [] ?_ ?_ rfl rfl <;> simp [lessT, lessM, lessB, AV.less]
                    · have q2 : decide ((x.length : Int) ≤ 3) = false := by simp at q ⊢; omega
                      rw [q2, Bool.false_and, Bool.false_and] at z45
                      rw [z45] at kb
                      have kb := kb rfl
                      subst kb
                      repeat (first | refine z12 rfl ?_ | refine z11 rfl ?_ | refine nx ?_ | (refine z10 fun K hK => ?_; simp (maxSteps := 4000000) only [go_sem, g1, hni, q]; refine hK _ ?_; clear hK K))
                      simp (maxSteps := 4000000) only [go_sem]
                  · have he : i = k.days.length := by (have : ¬ i < k.days.length := by simpa using hb); omega
                    subst he
                    rw [List.drop_length, List.all_nil] at z45
                    rw [z45] at kg
                    have kg := kg rfl
                    subst kg
                    repeat (first | refine nx ?_ | (refine z10 fun K hK => ?_; simp (maxSteps := 4000000) only [go_sem]; refine hK _ ?_; clear hK K))
                    simp (maxSteps := 4000000) only [go_sem]
end Go.Ab
namespace Go.Ab
open Go.RowKit Go.Proofs
set_option maxHeartbeats 8000000
set_option maxRecDepth 20000
attribute [local irreducible] WalkL Walk
theorem z1104 (k : Kitchen) (hg : KitGood k) (n : Nat) (no : Int) (hn : n < k.dishes.length) : Fn Try.prog 34 [.agg k.cells, .i (n : Int), .i no] (.bool (suitsB k (n : Int) no)) := by
  have gd := z495 hn
  have hl := z298 hg hn
  have hgo := hg.goods
  have hnn : ¬ ((n : Int) < 0) := by omega
  unfold suitsB
  obtain ⟨N, hN⟩ : ∃ N, N = (dishAt k (n : Int)).needs := ⟨_, rfl⟩
  rw [← hN] at gd hl ⊢
  refine z18 35 Try.call34 Try.func34 rfl (by decide) fun J => ?_
  simp (maxSteps := 4000000) only [go_sem, St.start, Try.ntmps34, Try.results34, Kitchen.cells]
  repeat (first | refine nx ?_ | (refine z10 fun K hK => ?_; simp (maxSteps := 4000000) only [go_sem]; refine hK _ ?_; clear hK K))
  refine z15 (fun (i : Nat) => [(7, .d (.i (i : Int)))]) (fun _ => []) (fun i => i ≤ k.allerg.length ∧ suitTo k.allerg N no i = true) (fun i => k.allerg.length - i) 0 ?_ ⟨Nat.zero_le _, rfl⟩ ?_
  · simp (maxSteps := 4000000) only [go_sem]
    refine z13 [] ?_ ?_ rfl rfl <;> simp [lessT, lessM, lessB, AV.less]
  · rintro i ⟨hi, hs⟩
    simp (maxSteps := 4000000) only [go_sem]
    repeat (first | refine nx ?_ | (refine z10 fun K hK => ?_; simp (maxSteps := 4000000) only [go_sem]; refine hK _ ?_; clear hK K))
    refine z14 rfl (fun hb => ?_) (fun hb => ?_)
    · have hlt : i < k.allerg.length := by simpa using hb
      have hw : IntKind.i64.wrap ((i : Int) + 1) = ((i + 1 : Nat) : Int) := by rw [z16 (by omega)]; simp
      have g1 := z21 (l := N) (i := i) (by omega)
      have g2 := z21 (l := k.allerg) (i := i) (by omega)
      have hni : ¬ ((i : Int) < 0) := by omega
      cases q1 : decide (getI N (i : Int) > 0)
      · have hbg : badGood k.allerg N no i = false := by rw [badGood, q1]; rfl
        repeat (first | refine z12 rfl ?_ | refine z11 rfl ?_ | refine nx ?_ | (refine z10 fun K hK => ?_; simp (maxSteps := 4000000) only [go_sem, gd, hnn, g1, q1, hni, hw]; refine hK _ ?_; clear hK K))
        refine ⟨rfl, i + 1, ?_, ⟨hlt, by rw [suitTo, hs, hbg]; rfl⟩, by omega⟩
        refine z13 [] ?_ ?_ rfl rfl <;> simp [lessT, lessM, lessB, AV.less]
      · cases q2 : (bAnd .i64 (getI k.allerg (i : Int)) no != 0)
        · have hbg : badGood k.allerg N no i = false := by rw [badGood, q2, Bool.and_false]
          repeat (first | refine z12 rfl ?_ | refine z11 rfl ?_ | refine nx ?_ | (refine z10 fun K hK => ?_; simp (maxSteps := 4000000) only [go_sem, gd, hnn, g1, g2, q1, q2, hni, hw]; refine hK _ ?_; clear hK K))
          refine ⟨rfl, i + 1, ?_, ⟨hlt, by rw [suitTo, hs, hbg]; rfl⟩, by omega⟩
          refine z13 [] ?_ ?_ rfl rfl <;> simp [lessT, lessM, lessB, AV.less]
        · have hbg : badGood k.allerg N no i = true := by rw [badGood, q1, q2]; rfl
          rw [z311 hbg (m := N.length) (by omega)]
          repeat (first | refine z12 rfl ?_ | refine z11 rfl ?_ | refine nx ?_ | (refine z10 fun K hK => ?_; simp (maxSteps := 4000000) only [go_sem, gd, hnn, g1, g2, q1, q2, hni]; refine hK _ ?_; clear hK K))
          simp (maxSteps := 4000000) only [go_sem]
    · have he : i = k.allerg.length := by (have : ¬ i < k.allerg.length := by simpa using hb); omega
      subst he
      rw [hl, hs]
      repeat (first | refine nx ?_ | (refine z10 fun K hK => ?_; simp (maxSteps := 4000000) only [go_sem]; refine hK _ ?_; clear hK K))
      simp (maxSteps := 4000000) only [go_sem]
theorem z1153 (k : Kitchen) (hg : KitGood k) (M : List (List Int)) (hM : M.length < 2 ^ 30) (hMr : ∀ r ∈ M, r.length < 2 ^ 30) : Fn Try.prog 23 [.agg k.cells, .sl (listRows M)] (.bool (shapedB (menuB k) M k.days)) := by
  obtain ⟨q, hqd⟩ : ∃ q, q = menuB k := ⟨_, rfl⟩
  have hq : ∀ (n : Int) (g : Diners), q n g = (withinB n 0 ((k.dishes.length : Int) - 1) && suitsB k n g.no) := fun n g => by rw [hqd]; rfl
  rw [← hqd]
  have hgr := hg.groups
  have hdl := hg.dishes
  have w : IntKind.i64.wrap ((k.dishes.length : Int) - 1) = (k.dishes.length : Int) - 1 := z16 (by omega)
  obtain ⟨R, hR⟩ : ∃ R, R = shapedB q M k.days := ⟨_, rfl⟩
  rw [← hR]
  cases q1 : ((M.length : Int) != (k.days.length : Int))
  · have hl : M.length = k.days.length := by
      simp only [bne_eq_false_iff_eq] at q1
      omega
    refine z18 74 Try.call23 Try.func23 rfl (by decide) fun J => ?_
    simp (maxSteps := 4000000) only [go_sem, St.start, Try.ntmps23, Try.results23, Kitchen.cells]
    repeat (first | refine z12 rfl ?_ | refine z11 rfl ?_ | refine nx ?_ | (refine z10 fun K hK => ?_; simp (maxSteps := 4000000) only [go_sem, q1, z20]; refine hK _ ?_; clear hK K))
    refine z15 (fun (i : Nat) => [(5, .d (.i (i : Int))), (6, .undef)]) (fun _ => []) (fun i => i ≤ M.length ∧ R = shapedB q (M.drop i) (k.days.drop i)) (fun i => M.length - i) 0 ?_ ⟨Nat.zero_le _, hR⟩ ?_
    · simp (maxSteps := 4000000) only [go_sem]
      refine z13 [] ?_ ?_ rfl rfl <;> simp [lessT, lessM, lessB, AV.less]
    · rintro i ⟨hi, hRi⟩
      simp (maxSteps := 4000000) only [go_sem]
      repeat (first | refine nx ?_ | (refine z10 fun K hK => ?_; simp (maxSteps := 4000000) only [go_sem, z20]; refine hK _ ?_; clear hK K))
      refine z14 rfl (fun hb => ?_) (fun hb => ?_)
      · have hlt : i < M.length := by simpa using hb
        have hw : IntKind.i64.wrap ((i : Int) + 1) = ((i + 1 : Nat) : Int) := by rw [z16 (by omega)]; simp
        obtain ⟨d, hd⟩ : ∃ d, k.days[i]? = some d := ⟨_, List.getElem?_eq_getElem (by omega)⟩
        obtain ⟨r, hr⟩ : ∃ r, M[i]? = some r := ⟨_, List.getElem?_eq_getElem (by omega)⟩
        have g1 := z69 hd
        have g2 := z40 hr
        have hni : ¬ ((i : Int) < 0) := by omega
        have hd3 := (hgr d (List.mem_of_getElem? hd)).1
        rw [z25 hd, z25 hr, shapedB] at hRi
        cases q2 : ((r.length : Int) != (d.length : Int))
        · have hrl : r.length = d.length := by
            simp only [bne_eq_false_iff_eq] at q2
            omega
          repeat (first | refine nx ?_ | (refine z10 fun K hK => ?_; simp (maxSteps := 4000000) only [go_sem]; refine hK _ ?_; clear hK K))
          refine z17 (by kernel_rfl) (by kernel_rfl) fun K hK => ?_
          simp (maxSteps := 4000000) only [go_sem, g1, g2, hni, q2]
          refine ⟨by kernel_rfl, hK _ ?_⟩
          clear hK K
          repeat (first | refine z12 rfl ?_ | refine z11 rfl ?_ | refine nx ?_ | (refine z10 fun K hK => ?_; simp (maxSteps := 4000000) only [go_sem]; refine hK _ ?_; clear hK K))
          refine z15 (fun (j : Nat) => [(6, .d (.i (j : Int)))]) (fun _ => []) (fun j => j ≤ r.length ∧ R = (rowOk q (r.drop j) (d.drop j) && shapedB q (M.drop (i + 1)) (k.days.drop (i + 1)))) (fun j => r.length - j) 0 ?_ ⟨Nat.zero_le _, hRi⟩ ?_
          · simp (maxSteps := 4000000) only [go_sem]
            refine z13 [] ?_ ?_ rfl rfl <;> simp [lessT, lessM, lessB, AV.less]
          · rintro j ⟨hj, hRj⟩
            simp (maxSteps := 4000000) only [go_sem]
            repeat (first | refine nx ?_ | (refine z10 fun K hK => ?_; simp (maxSteps := 4000000) only [go_sem, g2, hni]; refine hK _ ?_; clear hK K))
            refine z14 rfl (fun hb => ?_) (fun hb => ?_)
            · have hltj : j < r.length := by simpa using hb
              have hwj : IntKind.i64.wrap ((j : Int) + 1) = ((j + 1 : Nat) : Int) := by rw [z16 (by omega)]; simp
              obtain ⟨g, hgj⟩ : ∃ g, d[j]? = some g := ⟨_, List.getElem?_eq_getElem (by omega)⟩
              obtain ⟨n, hnj⟩ : ∃ n, r[j]? = some n := ⟨_, List.getElem?_eq_getElem (by omega)⟩
              have g3 := z68 hgj
              have g4 := z37 hnj
              rw [Diners.row] at g3
              have hnjj : ¬ ((j : Int) < 0) := by omega
              have c1 := z854 n 0 ((k.dishes.length : Int) - 1)
              rw [z25 hgj, z25 hnj, rowOk, hq] at hRj
              cases q3 : withinB n 0 ((k.dishes.length : Int) - 1)
              · rw [q3] at hRj c1
                rw [Bool.false_and, Bool.false_and, Bool.false_and] at hRj
                rw [hRj]
                repeat (first | refine nx ?_ | (refine z10 fun K hK => ?_; simp (maxSteps := 4000000) only [go_sem]; refine hK _ ?_; clear hK K))
                refine z17 (by kernel_rfl) (by kernel_rfl) fun K hK => ?_
                simp (maxSteps := 4000000) only [go_sem, g1, g2, g3, g4, hni, hnjj, w]
                refine ⟨_, .fn (hf := c1) (hd := rfl) (hr := .inl rfl), ?_⟩
                simp (maxSteps := 4000000) only [go_sem]
                refine ⟨by kernel_rfl, hK _ ?_⟩
                clear hK K
                repeat (first | refine z12 rfl ?_ | refine z11 rfl ?_ | refine nx ?_ | (refine z10 fun K hK => ?_; simp (maxSteps := 4000000) only [go_sem]; refine hK _ ?_; clear hK K))
                simp (maxSteps := 4000000) only [go_sem]
              · rw [q3] at hRj c1
                rw [Bool.true_and] at hRj
                have hw3 := z36.1 q3
                obtain ⟨m, rfl⟩ : ∃ m : Nat, n = (m : Int) := ⟨n.toNat, by omega⟩
                have c2 := z1104 k hg m g.no (by omega)
                cases q4 : suitsB k (m : Int) g.no
                · rw [q4] at hRj c2
                  rw [Bool.false_and, Bool.false_and] at hRj
                  rw [hRj]
                  rw [Kitchen.cells] at c2
                  repeat (first | refine nx ?_ | (refine z10 fun K hK => ?_; simp (maxSteps := 4000000) only [go_sem]; refine hK _ ?_; clear hK K))
                  refine z17 (by kernel_rfl) (by kernel_rfl) fun K hK => ?_
                  simp (maxSteps := 4000000) only [go_sem, g1, g2, g3, g4, hni, hnjj, w]
                  refine ⟨_, .fn (hf := c1) (hd := rfl) (hr := .inl rfl), ?_⟩
                  simp (maxSteps := 4000000) only [go_sem, g1, g2, g3, g4, hni, hnjj]
                  refine ⟨_, .fn (hf := c2) (hd := rfl) (hr := .inl rfl), ?_⟩
                  simp (maxSteps := 4000000) only [go_sem]
                  refine ⟨by kernel_rfl, hK _ ?_⟩
                  clear hK K
                  repeat (first | refine z12 rfl ?_ | refine z11 rfl ?_ | refine nx ?_ | (refine z10 fun K hK => ?_; simp (maxSteps := 4000000) only [go_sem]; refine hK _ ?_; clear hK K))
                  simp (maxSteps := 4000000) only [go_sem]
                · rw [q4] at hRj c2
                  rw [Bool.true_and] at hRj
                  rw [Kitchen.cells] at c2
                  repeat (first | refine nx ?_ | (refine z10 fun K hK => ?_; simp (maxSteps := 4000000) only [go_sem]; refine hK _ ?_; clear hK K))
                  refine z17 (by kernel_rfl) (by kernel_rfl) fun K hK => ?_
                  simp (maxSteps := 4000000) only [go_sem, g1, g2, g3, g4, hni, hnjj, w]
                  refine ⟨_, .fn (hf := c1) (hd := rfl) (hr := .inl rfl), ?_⟩
                  simp (maxSteps := 4000000) only [go_sem, g1, g2, g3, g4, hni, hnjj]
                  refine ⟨_, .fn (hf := c2) (hd := rfl) (hr := .inl rfl), ?_⟩
                  simp (maxSteps := 4000000) only [go_sem]
                  refine ⟨by kernel_rfl, hK _ ?_⟩
                  clear hK K
                  repeat (first | refine z12 rfl ?_ | refine z11 rfl ?_ | refine nx ?_ | (refine z10 fun K hK => ?_; simp (maxSteps := 4000000) only [go_sem, hwj]; refine hK _ ?_; clear hK K))
                  refine ⟨rfl, j + 1, ?_, ⟨hltj, hRj⟩, by omega⟩
                  refine z13 [] ?_ ?_ rfl rfl <;> simp [lessT, lessM, lessB, AV.less]
            · have he : j = r.length := by (have : ¬ j < r.length := by simpa using hb); omega
              subst he
              rw [List.drop_length, hrl, List.drop_length, rowOk, Bool.true_and] at hRj
              repeat (first | refine nx ?_ | (refine z10 fun K hK => ?_; simp (maxSteps := 4000000) only [go_sem, hw]; refine hK _ ?_; clear hK K))
              refine ⟨rfl, i + 1, ?_, ⟨hlt, hRj⟩, by omega⟩
              refine z13 [] ?_ ?_ rfl rfl <;> simp [lessT, lessM, lessB, AV.less]
        · have hf : rowOk q r d = false := by
            cases hx : rowOk q r d with
            | false => rfl
            | true =>
              have := z87 hx
              rw [this] at q2
              simp at q2
          rw [hf, Bool.false_and] at hRi
          rw [hRi]
          repeat (first | refine nx ?_ | (refine z10 fun K hK => ?_; simp (maxSteps := 4000000) only [go_sem]; refine hK _ ?_; clear hK K))
          refine z17 (by kernel_rfl) (by kernel_rfl) fun K hK => ?_
          simp (maxSteps := 4000000) only [go_sem, g1, g2, hni, q2]
          refine ⟨by kernel_rfl, hK _ ?_⟩
          clear hK K
          repeat (first | refine z12 rfl ?_ | refine z11 rfl ?_ | refine nx ?_ | (refine z10 fun K hK => ?_; simp (maxSteps := 4000000) only [go_sem]; refine hK _ ?_; clear hK K))
          simp (maxSteps := 4000000) only [go_sem]
      · have he : i = M.length := by (have : ¬ i < M.length := by simpa using hb); omega
        subst he
        rw [List.drop_length, hl, List.drop_length, shapedB] at hRi
        rw [hRi]
        repeat (first | refine nx ?_ | (refine z10 fun K hK => ?_; simp (maxSteps := 4000000) only [go_sem]; refine hK _ ?_; clear hK K))
        simp (maxSteps := 4000000) only [go_sem]
  · have hf : R = false := by
      rw [hR]
      cases hx : shapedB q M k.days with
      | false => rfl
      | true =>
        have := z27 hx
        rw [this] at q1
        simp at q1
    rw [hf]
    refine z18 74 Try.call23 Try.func23 rfl (by decide) fun J => ?_
    simp (maxSteps := 4000000) only [go_sem, St.start, Try.ntmps23, Try.results23, Kitchen.cells]
    repeat (first | refine z12 rfl ?_ | refine z11 rfl ?_ | refine nx ?_ | (refine z10 fun K hK => ?_; simp (maxSteps := 4000000) only [go_sem, q1, z20]; refine hK _ ?_; clear hK K))
    simp (maxSteps := 4000000) only [go_sem]
theorem z1147 (k : Kitchen) (M : List (List Int)) (hs : KitSmall k) (hM : M.length < 2 ^ 30) (hMr : ∀ r ∈ M, r.length < 2 ^ 30) : Fn Try.prog 50 [.agg k.cells, .sl (listRows M)] (.i (openK k M)) := by
  have h44 := z1086 k hs
  unfold openK
  by_cases h0 : kitE k = 0
  · have h82 := z1153 k (z142 (z136.1 h0)) M hM hMr
    rw [if_pos h0]
    rw [h0] at h44
    rw [Kitchen.cells] at h44 h82
    cases q : shapedB (menuB k) M k.days
    · rw [q] at h82
      refine z18 12 Try.call50 Try.func50 rfl (by decide) fun J => ?_
      simp (maxSteps := 4000000) only [go_sem, St.start, Try.ntmps50, Try.results50, Kitchen.cells]
      repeat (first | refine z12 rfl ?_ | refine z11 rfl ?_ | refine nx ?_ | (refine z10 fun K hK => ?_; simp (maxSteps := 4000000) only [go_sem]; (repeat (first | (refine ⟨_, .lent (hf := h44) (hd := rfl) (hr := rfl), ?_⟩; simp (maxSteps := 4000000) only [go_sem]) | (refine ⟨_, .lent (hf := h82) (hd := rfl) (hr := rfl), ?_⟩; simp (maxSteps := 4000000) only [go_sem]) | (refine ⟨_, .given (hf := h44) (hd := rfl) (ha := rfl), ?_⟩; simp (maxSteps := 4000000) only [go_sem]) | (refine ⟨_, .given (hf := h82) (hd := rfl) (ha := rfl), ?_⟩; simp (maxSteps := 4000000) only [go_sem]))); refine hK _ ?_; clear hK K))
      simp (maxSteps := 4000000) only [go_sem]
    · rw [q] at h82
      refine z18 12 Try.call50 Try.func50 rfl (by decide) fun J => ?_
      simp (maxSteps := 4000000) only [go_sem, St.start, Try.ntmps50, Try.results50, Kitchen.cells]
      repeat (first | refine z12 rfl ?_ | refine z11 rfl ?_ | refine nx ?_ | (refine z10 fun K hK => ?_; simp (maxSteps := 4000000) only [go_sem]; (repeat (first | (refine ⟨_, .lent (hf := h44) (hd := rfl) (hr := rfl), ?_⟩; simp (maxSteps := 4000000) only [go_sem]) | (refine ⟨_, .lent (hf := h82) (hd := rfl) (hr := rfl), ?_⟩; simp (maxSteps := 4000000) only [go_sem]) | (refine ⟨_, .given (hf := h44) (hd := rfl) (ha := rfl), ?_⟩; simp (maxSteps := 4000000) only [go_sem]) | (refine ⟨_, .given (hf := h82) (hd := rfl) (ha := rfl), ?_⟩; simp (maxSteps := 4000000) only [go_sem]))); refine hK _ ?_; clear hK K))
      simp (maxSteps := 4000000) only [go_sem]
  · rw [if_neg h0]
    have e70 : kitE k = 70 := by unfold kitE at h0 ⊢; split <;> simp_all
    rw [e70] at h44 ⊢
    rw [Kitchen.cells] at h44
    refine z18 12 Try.call50 Try.func50 rfl (by decide) fun J => ?_
    simp (maxSteps := 4000000) only [go_sem, St.start, Try.ntmps50, Try.results50, Kitchen.cells]
    repeat (first | refine z12 rfl ?_ | refine z11 rfl ?_ | refine nx ?_ | (refine z10 fun K hK => ?_; simp (maxSteps := 4000000) only [go_sem]; (repeat (first | (refine ⟨_, .lent (hf := h44) (hd := rfl) (hr := rfl), ?_⟩; simp (maxSteps := 4000000) only [go_sem]) | (refine ⟨_, .given (hf := h44) (hd := rfl) (ha := rfl), ?_⟩; simp (maxSteps := 4000000) only [go_sem]))); refine hK _ ?_; clear hK K))
    simp (maxSteps := 4000000) only [go_sem]
end Go.Ab
namespace Go.Ab
open Go.RowKit Go.Proofs
set_option maxHeartbeats 8000000
set_option maxRecDepth 20000
attribute [local irreducible] WalkL Walk
def longB (r : List Int) : Bool := decide ((r.length : Int) > 20)
def farRows (M : List (List Int)) : Bool := M.any longB || decide ((M.length : Int) > 20)
theorem z1159 (M : List (List Int)) (hM : M.length < 2 ^ 30) : Fn Try.prog 12 [.sl (listRows M)] (.bool (farRows M)) := by
  unfold farRows
  obtain ⟨R, hR⟩ : ∃ R, R = (M.any longB || decide ((M.length : Int) > 20)) := ⟨_, rfl⟩
  rw [← hR]
  refine z18 19 Try.call12 Try.func12 rfl (by decide) fun J => ?_
  simp (maxSteps := 4000000) only [go_sem, St.start, Try.ntmps12, Try.results12]
  repeat (first | refine nx ?_ | (refine z10 fun K hK => ?_; simp (maxSteps := 4000000) only [go_sem]; refine hK _ ?_; clear hK K))
  refine z15 (fun (i : Nat) => [(3, .d (.i (i : Int)))]) (fun _ => []) (fun i => i ≤ M.length ∧ R = ((M.drop i).any longB || decide ((M.length : Int) > 20))) (fun i => M.length - i) 0 ?_ ⟨Nat.zero_le _, hR⟩ ?_
  · simp (maxSteps := 4000000) only [go_sem]
    refine z13 [] ?_ ?_ rfl rfl <;> simp [lessT, lessM, lessB, AV.less]
  · rintro i ⟨hi, z45⟩
    simp (maxSteps := 4000000) only [go_sem]
    repeat (first | refine nx ?_ | (refine z10 fun K hK => ?_; simp (maxSteps := 4000000) only [go_sem, z20]; refine hK _ ?_; clear hK K))
    refine z14 rfl (fun hb => ?_) (fun hb => ?_)
    · have hlt : i < M.length := by simpa using hb
      have hw : IntKind.i64.wrap ((i : Int) + 1) = ((i + 1 : Nat) : Int) := by rw [z16 (by omega)]; simp
      obtain ⟨r, hr⟩ : ∃ r, M[i]? = some r := ⟨_, List.getElem?_eq_getElem hlt⟩
      have g1 := z40 hr
      have hni : ¬ ((i : Int) < 0) := by omega
      rw [z25 hr, List.any_cons] at z45
      cases q : longB r
      · rw [q, Bool.false_or] at z45
        rw [longB] at q
        repeat (first | refine z12 rfl ?_ | refine z11 rfl ?_ | refine nx ?_ | (refine z10 fun K hK => ?_; simp (maxSteps := 4000000) only [go_sem, g1, hni, q, hw]; refine hK _ ?_; clear hK K))
        refine ⟨rfl, i + 1, ?_, ⟨hlt, z45⟩, by omega⟩
        refine z13 [] ?_ ?_ rfl rfl <;> simp [lessT, lessM, lessB, AV.less]
      · rw [q, Bool.true_or, Bool.true_or] at z45
        rw [longB] at q
        subst z45
        repeat (first | refine z12 rfl ?_ | refine z11 rfl ?_ | refine nx ?_ | (refine z10 fun K hK => ?_; simp (maxSteps := 4000000) only [go_sem, g1, hni, q]; refine hK _ ?_; clear hK K))
        simp (maxSteps := 4000000) only [go_sem]
    · have he : i = M.length := by (have : ¬ i < M.length := by simpa using hb); omega
      subst he
      rw [List.drop_length, List.any_nil, Bool.false_or] at z45
      subst z45
      repeat (first | refine nx ?_ | (refine z10 fun K hK => ?_; simp (maxSteps := 4000000) only [go_sem, z20]; refine hK _ ?_; clear hK K))
      simp (maxSteps := 4000000) only [go_sem]
def longD (d : List Diners) : Bool := decide ((d.length : Int) > 20)
def longN (d : Dish) : Bool := decide ((d.needs.length : Int) > 20)
def maxTo (l : List (List Diners)) : Nat → Int
  | 0 => 0
  | i + 1 => max (maxTo l i) ((l.getD i []).length : Int)
def farK1 (k : Kitchen) : Bool := decide ((k.allerg.length : Int) > 20) || (decide ((k.batches.length : Int) > 20) || (decide ((k.dishes.length : Int) > 20) || decide ((k.days.length : Int) > 20)))
def farK2 (k : Kitchen) : Bool := (kitE k == 0) && (decide ((k.dishes.length : Int) > 3) || (decide ((k.days.length : Int) > 3) || decide (maxTo k.days k.days.length > 2)))
def far7 (k : Kitchen) : Bool := farK1 k || (k.days.any longD || (k.dishes.any longN || farK2 k))
theorem z1160 (k : Kitchen) (hs : KitSmall k) : Fn Try.prog 11 [.agg k.cells] (.bool (far7 k)) := by
  have h44 := z1086 k hs
  have a1 := hs.allerg
  have a2 := hs.batches
  have a3 := hs.dishes
  have a5 := hs.days
  obtain ⟨R, hR⟩ : ∃ R, R = far7 k := ⟨_, rfl⟩
  rw [← hR]
  rw [far7] at hR
  rw [Kitchen.cells] at h44
  refine z18 84 Try.call11 Try.func11 rfl (by decide) fun J => ?_
  simp (maxSteps := 4000000) only [go_sem, St.start, Try.ntmps11, Try.results11, Kitchen.cells]
  repeat (first | refine nx ?_ | (refine z10 fun K hK => ?_; simp (maxSteps := 4000000) only [go_sem]; refine hK _ ?_; clear hK K))
  refine z137 [(27, .d (.bool (farK1 k)))] [] ?_ ?_
  · refine z10 fun K hK => ?_
    simp (maxSteps := 4000000) only [go_sem]
    by_cases ho0 : (decide ((k.allerg.length : Int) > 20)) = true
    · simp (maxSteps := 4000000) only [go_sem, ho0]
      refine hK _ ?_
      clear hK K
      refine z32 ?_
      refine z24 ?_
      refine ⟨rfl, ?_⟩
      rw [show (farK1 k) = (true) from by simp [farK1, ho0]]
      simp (maxSteps := 4000000) only [go_sem]
      refine z13 [] ?_ ?_ rfl rfl <;> simp [lessT, lessM, lessB, AV.less]
    · simp (maxSteps := 4000000) only [go_sem, ho0]
      by_cases ho1 : (decide ((k.batches.length : Int) > 20)) = true
      · simp (maxSteps := 4000000) only [go_sem, ho0, ho1]
        refine hK _ ?_
        clear hK K
        refine z32 ?_
        refine z24 ?_
        refine ⟨rfl, ?_⟩
        rw [show (farK1 k) = (true) from by simp [farK1, ho0, ho1]]
        simp (maxSteps := 4000000) only [go_sem]
        refine z13 [] ?_ ?_ rfl rfl <;> simp [lessT, lessM, lessB, AV.less]
      · simp (maxSteps := 4000000) only [go_sem, ho0, ho1]
        by_cases ho2 : (decide ((k.dishes.length : Int) > 20)) = true
        · simp (maxSteps := 4000000) only [go_sem, ho0, ho1, ho2]
          refine hK _ ?_
          clear hK K
          refine z32 ?_
          refine z24 ?_
          refine ⟨rfl, ?_⟩
          rw [show (farK1 k) = (true) from by simp [farK1, ho0, ho1, ho2]]
          simp (maxSteps := 4000000) only [go_sem]
          refine z13 [] ?_ ?_ rfl rfl <;> simp [lessT, lessM, lessB, AV.less]
        · simp (maxSteps := 4000000) only [go_sem, ho0, ho1, ho2]
          refine hK _ ?_
          clear hK K
          refine z32 ?_
          refine z24 ?_
          refine ⟨rfl, ?_⟩
          rw [show (farK1 k) = (decide ((k.days.length : Int) > 20)) from by simp [farK1, ho0, ho1, ho2]]
          simp (maxSteps := 4000000) only [go_sem]
          refine z13 [] ?_ ?_ rfl rfl <;> simp [lessT, lessM, lessB, AV.less]
  simp (maxSteps := 4000000) only [go_sem]
  repeat (first | refine nx ?_ | (refine z10 fun K hK => ?_; simp (maxSteps := 4000000) only [go_sem]; refine hK _ ?_; clear hK K))
  refine z14 rfl (fun hc => ?_) (fun hc => ?_)
  · rw [hc, Bool.true_or] at hR
    subst hR
    rw [hc]
    repeat (first | refine nx ?_ | (refine z10 fun K hK => ?_; simp (maxSteps := 4000000) only [go_sem]; refine hK _ ?_; clear hK K))
    simp (maxSteps := 4000000) only [go_sem, if_true]
  · rw [hc, Bool.false_or] at hR
    rw [hc]
    repeat (first | refine nx ?_ | (refine z10 fun K hK => ?_; simp (maxSteps := 4000000) only [go_sem]; refine hK _ ?_; clear hK K))
    refine z15 (fun (i : Nat) => [(4, .d (.i (i : Int))), (3, .d (.i (maxTo k.days i)))]) (fun _ => []) (fun i => i ≤ k.days.length ∧ R = ((k.days.drop i).any longD || (k.dishes.any longN || farK2 k))) (fun i => k.days.length - i) 0 ?_ ⟨Nat.zero_le _, hR⟩ ?_
    · simp (maxSteps := 4000000) only [go_sem, maxTo]
      refine z13 [] ?_ ?_ rfl rfl <;> simp [lessT, lessM, lessB, AV.less]
    · rintro i ⟨hi, z45⟩
      have hmx : max (maxTo k.days i) ((k.days.getD i []).length : Int) = maxTo k.days (i + 1) := rfl
      obtain ⟨mi, hmi⟩ : ∃ m, m = maxTo k.days i := ⟨_, rfl⟩
      rw [← hmi] at hmx
      simp (maxSteps := 4000000) only [go_sem, ← hmi]
      repeat (first | refine nx ?_ | (refine z10 fun K hK => ?_; simp (maxSteps := 4000000) only [go_sem]; refine hK _ ?_; clear hK K))
      refine z14 rfl (fun hb => ?_) (fun hb => ?_)
      · have hlt : i < k.days.length := by simpa using hb
        have hw : IntKind.i64.wrap ((i : Int) + 1) = ((i + 1 : Nat) : Int) := by rw [z16 (by omega)]; simp
        obtain ⟨r, hr⟩ : ∃ r, k.days[i]? = some r := ⟨_, List.getElem?_eq_getElem hlt⟩
        have g1 := z69 hr
        have hni : ¬ ((i : Int) < 0) := by omega
        rw [List.getD, hr, Option.getD_some] at hmx
        rw [z25 hr, List.any_cons] at z45
        cases q : longD r
        · rw [q, Bool.false_or] at z45
          rw [longD] at q
          repeat (first | refine z12 rfl ?_ | refine z11 rfl ?_ | refine nx ?_ | (refine z10 fun K hK => ?_; simp (maxSteps := 4000000) only [go_sem, g1, hni, q, hw, hmx]; refine hK _ ?_; clear hK K))
          refine ⟨rfl, i + 1, ?_, ⟨hlt, z45⟩, by omega⟩
          refine z13 [] ?_ ?_ rfl rfl <;> simp [lessT, lessM, lessB, AV.less]
          all_goals first | done | rfl | trace_state
        · rw [q, Bool.true_or] at z45
          rw [longD] at q
          subst z45
          repeat (first | refine z12 rfl ?_ | refine z11 rfl ?_ | refine nx ?_ | (refine z10 fun K hK => ?_; simp (maxSteps := 4000000) only [go_sem, g1, hni, q]; refine hK _ ?_; clear hK K))
          simp (maxSteps := 4000000) only [go_sem]
      · have he : i = k.days.length := by (have : ¬ i < k.days.length := by simpa using hb); omega
        subst he
        rw [List.drop_length, List.any_nil, Bool.false_or] at z45
        repeat (first | refine nx ?_ | (refine z10 fun K hK => ?_; simp (maxSteps := 4000000) only [go_sem]; refine hK _ ?_; clear hK K))
        refine z15 (fun (j : Nat) => [(5, .d (.i (j : Int)))]) (fun _ => []) (fun j => j ≤ k.dishes.length ∧ R = ((k.dishes.drop j).any longN || farK2 k)) (fun j => k.dishes.length - j) 0 ?_ ⟨Nat.zero_le _, z45⟩ ?_
        · simp (maxSteps := 4000000) only [go_sem]
          refine z13 [] ?_ ?_ rfl rfl <;> simp [lessT, lessM, lessB, AV.less]
        · rintro j ⟨hj, hallj⟩
          simp (maxSteps := 4000000) only [go_sem]
          repeat (first | refine nx ?_ | (refine z10 fun K hK => ?_; simp (maxSteps := 4000000) only [go_sem]; refine hK _ ?_; clear hK K))
          refine z14 rfl (fun hb => ?_) (fun hb => ?_)
          · have hlt : j < k.dishes.length := by simpa using hb
            have hw : IntKind.i64.wrap ((j : Int) + 1) = ((j + 1 : Nat) : Int) := by rw [z16 (by omega)]; simp
            obtain ⟨r, hr⟩ : ∃ r, k.dishes[j]? = some r := ⟨_, List.getElem?_eq_getElem hlt⟩
            have g1 := z108 hr
            rw [Dish.row] at g1
            have hni : ¬ ((j : Int) < 0) := by omega
            rw [z25 hr, List.any_cons] at hallj
            cases q : longN r
            · rw [q, Bool.false_or] at hallj
              rw [longN] at q
              repeat (first | refine z12 rfl ?_ | refine z11 rfl ?_ | refine nx ?_ | (refine z10 fun K hK => ?_; simp (maxSteps := 4000000) only [go_sem, g1, hni, q, hw]; refine hK _ ?_; clear hK K))
              refine ⟨rfl, j + 1, ?_, ⟨hlt, hallj⟩, by omega⟩
              refine z13 [] ?_ ?_ rfl rfl <;> simp [lessT, lessM, lessB, AV.less]
            · rw [q, Bool.true_or] at hallj
              rw [longN] at q
              subst hallj
              repeat (first | refine z12 rfl ?_ | refine z11 rfl ?_ | refine nx ?_ | (refine z10 fun K hK => ?_; simp (maxSteps := 4000000) only [go_sem, g1, hni, q]; refine hK _ ?_; clear hK K))
              simp (maxSteps := 4000000) only [go_sem]
          · have he : j = k.dishes.length := by (have : ¬ j < k.dishes.length := by simpa using hb); omega
            subst he
            rw [List.drop_length, List.any_nil, Bool.false_or, farK2, ← hmi] at hallj
            obtain ⟨e, he⟩ : ∃ e, e = kitE k := ⟨_, rfl⟩
            rw [← he] at h44 hallj
            cases q0 : (e == 0)
            · rw [q0, Bool.false_and] at hallj
              subst hallj
              repeat (first | refine z12 rfl ?_ | refine z11 rfl ?_ | refine nx ?_ | (refine z10 fun K hK => ?_; simp (maxSteps := 4000000) only [go_sem, q0]; (repeat (first | (refine ⟨_, .lent (hf := h44) (hd := rfl) (hr := rfl), ?_⟩; simp (maxSteps := 4000000) only [go_sem, q0]) | (refine ⟨_, .given (hf := h44) (hd := rfl) (ha := rfl), ?_⟩; simp (maxSteps := 4000000) only [go_sem, q0]))); refine hK _ ?_; clear hK K))
              simp (maxSteps := 4000000) only [go_sem]
            · rw [q0, Bool.true_and] at hallj
              cases q1 : decide ((k.dishes.length : Int) > 3)
              · rw [q1, Bool.false_or] at hallj
                cases q2 : decide ((k.days.length : Int) > 3)
                · rw [q2, Bool.false_or] at hallj
                  subst hallj
                  repeat (first | refine z12 rfl ?_ | refine z11 rfl ?_ | refine nx ?_ | (refine z10 fun K hK => ?_; simp (maxSteps := 4000000) only [go_sem, q0, q1, q2]; (repeat (first | (refine ⟨_, .lent (hf := h44) (hd := rfl) (hr := rfl), ?_⟩; simp (maxSteps := 4000000) only [go_sem, q0, q1, q2]) | (refine ⟨_, .given (hf := h44) (hd := rfl) (ha := rfl), ?_⟩; simp (maxSteps := 4000000) only [go_sem, q0, q1, q2]))); refine hK _ ?_; clear hK K))
                  simp (maxSteps := 4000000) only [go_sem]
                · rw [q2, Bool.true_or] at hallj
                  subst hallj
                  repeat (first | refine z12 rfl ?_ | refine z11 rfl ?_ | refine nx ?_ | (refine z10 fun K hK => ?_; simp (maxSteps := 4000000) only [go_sem, q0, q1, q2]; (repeat (first | (refine ⟨_, .lent (hf := h44) (hd := rfl) (hr := rfl), ?_⟩; simp (maxSteps := 4000000) only [go_sem, q0, q1, q2]) | (refine ⟨_, .given (hf := h44) (hd := rfl) (ha := rfl), ?_⟩; simp (maxSteps := 4000000) only [go_sem, q0, q1, q2]))); refine hK _ ?_; clear hK K))
                  simp (maxSteps := 4000000) only [go_sem]
              · rw [q1, Bool.true_or] at hallj
                subst hallj
                repeat (first | refine z12 rfl ?_ | refine z11 rfl ?_ | refine nx ?_ | (refine z10 fun K hK => ?_; simp (maxSteps := 4000000) only [go_sem, q0, q1]; (repeat (first | (refine ⟨_, .lent (hf := h44) (hd := rfl) (hr := rfl), ?_⟩; simp (maxSteps := 4000000) only [go_sem, q0, q1]) | (refine ⟨_, .given (hf := h44) (hd := rfl) (ha := rfl), ?_⟩; simp (maxSteps := 4000000) only [go_sem, q0, q1]))); refine hK _ ?_; clear hK K))
                simp (maxSteps := 4000000) only [go_sem]
end Go.Ab
namespace Go.Ab
open Go.RowKit Go.Proofs
set_option maxHeartbeats 16000000
set_option maxRecDepth 20000
attribute [local irreducible] WalkL Walk
theorem z236 {k : Kitchen} (hg : KitGood k) {i : Nat} (hi : i < k.days.length) {l : List Int} (hl : l.length = k.batches.length) (ha : AmtOk l) (h : (bestN k (k.days.length - i) l).1 < 1099511627776) :
    ∃ m l', m ∈ choicesL k i ∧ takeD k i m (clr0 k i l).1 = some l' ∧ bestN k (k.days.length - i) l = ((clr0 k i l).2 + (bestN k (k.days.length - (i + 1)) l').1, m) ∧ (bestN k (k.days.length - (i + 1)) l').1 < 1099511627776 := by
  obtain ⟨r, hr⟩ : ∃ r, r = k.days.length - (i + 1) := ⟨_, rfl⟩
  have e1 : k.days.length - i = r + 1 := by omega
  have e2 : k.days.length - (r + 1) = i := by omega
  obtain ⟨c1, c2, c3, c4⟩ := z264 hg (d := i) hl ha
  rw [e1] at h
  rw [e1, ← hr]
  have hN : bestN k (r + 1) l = (choicesL k i).foldl (bestSN k i (clr0 k i l) (bestN k r)) (1099511627776, []) := by rw [bestN, e2]; rfl
  have key : bestN k (r + 1) l = (1099511627776, []) ∨ ∃ m l', m ∈ choicesL k i ∧ takeD k i m (clr0 k i l).1 = some l' ∧ bestN k (r + 1) l = ((clr0 k i l).2 + (bestN k r l').1, m) := by
    rw [hN]
    refine z339 (p := fun a : PlanV => a = (1099511627776, []) ∨ ∃ m l', m ∈ choicesL k i ∧ takeD k i m (clr0 k i l).1 = some l' ∧ a = ((clr0 k i l).2 + (bestN k r l').1, m)) (choicesL k i) (.inl rfl) fun a m hm hp => ?_
    unfold bestSN
    split
    · exact hp
    · rename_i l' hl'
      split
      · exact .inr ⟨m, l', hm, hl', rfl⟩
      · exact hp
  rcases key with k1 | ⟨m, l', h1, h2, h3⟩
  · rw [k1] at h; exact absurd h (by decide)
  · refine ⟨m, l', h1, h2, h3, ?_⟩
    rw [h3] at h
    dsimp only at h
    omega
theorem z126 {k : Kitchen} (hg : KitGood k) (h : wasteK k < 1099511627776) : ∀ i, i ≤ k.days.length → (bestN k (k.days.length - i) (planL k i).1).1 < 1099511627776
  | 0, _ => h
  | i + 1, hi => by
    obtain ⟨p1, p2⟩ := z140 hg i (by omega)
    obtain ⟨m, l', h1, h2, h3, h4⟩ := z236 hg (by omega) p2 p1 (z126 hg h i (by omega))
    rw [z221]
    dsimp only
    rw [h3]
    dsimp only
    rw [h2]
    exact h4
theorem z179 (k : Kitchen) (i : Nat) : ∀ j, i < j → (planL k j).2[i]? = some (bestN k (k.days.length - i) (planL k i).1).2
  | 0, h => by omega
  | j + 1, h => by
    rw [z221]
    dsimp only
    by_cases hj : i = j
    · subst hj
      rw [List.getElem?_append_right (by rw [z59]; exact Nat.le_refl _), z59, Nat.sub_self]
      rfl
    · rw [List.getElem?_append_left (by rw [z59]; omega)]
      exact z179 k i j (by omega)
theorem z962 {k : Kitchen} (hg : KitGood k) (h : wasteK k < 1099511627776) {i : Nat} (hi : i < k.days.length) : (bestN k (k.days.length - i) (planL k i).1).2 ∈ choicesL k i := by
  obtain ⟨p1, p2⟩ := z140 hg i (by omega)
  obtain ⟨m, l', h1, h2, h3, h4⟩ := z236 hg hi p2 p1 (z126 hg h i (by omega))
  rw [h3]
  exact h1
theorem z475 {q : Int → Diners → Bool} : ∀ {r : List Int} {x : List Diners}, r.length = x.length → (∀ (g : Nat) n y, r[g]? = some n → x[g]? = some y → q n y = true) → rowOk q r x = true
  | [], [], _, _ => rfl
  | n :: r, y :: x, hl, h => by
    rw [rowOk, h 0 n y rfl rfl, Bool.true_and]
    exact z475 (by simpa using hl) fun g a b h1 h2 => h (g + 1) a b (by simpa using h1) (by simpa using h2)
  | [], _ :: _, h, _ => by simp at h
  | _ :: _, [], h, _ => by simp at h
theorem z215 {q : Int → Diners → Bool} : ∀ {M : List (List Int)} {D : List (List Diners)}, M.length = D.length → (∀ (i : Nat) r x, M[i]? = some r → D[i]? = some x → rowOk q r x = true) → shapedB q M D = true
  | [], [], _, _ => rfl
  | n :: r, y :: x, hl, h => by
    rw [shapedB, h 0 n y rfl rfl, Bool.true_and]
    exact z215 (by simpa using hl) fun g a b h1 h2 => h (g + 1) a b (by simpa using h1) (by simpa using h2)
  | [], _ :: _, h, _ => by simp at h
  | _ :: _, [], h, _ => by simp at h
theorem z743 {k : Kitchen} {d : Nat} (hd : d < k.days.length) {m : List Int} (hm : m ∈ choicesL k d) : rowOk (menuB k) m (k.days.getD d []) = true := by
  obtain ⟨t, e, hp⟩ := z183.1 hm
  rw [List.nil_append] at e
  subst e
  refine z475 (by rw [hp.len]; simp [suitDay]) fun g n y h1 h2 => ?_
  obtain ⟨S, hS, hx⟩ := hp.at h1
  rw [suitDay, List.getElem?_map, h2] at hS
  cases hS
  obtain ⟨j, rfl, hj, hs⟩ := z739 hx
  rw [menuB, hs, Bool.and_true]
  exact z36.2 ⟨by omega, by omega⟩
theorem z710 {k : Kitchen} (hg : KitGood k) (h : wasteK k < 1099511627776) : shapedB (menuB k) (planL k k.days.length).2 k.days = true := by
  refine z215 (z59 k _) fun i r x h1 h2 => ?_
  have hi := (List.getElem?_eq_some_iff.1 h2).1
  rw [z179 k i _ hi] at h1
  cases h1
  have e : k.days.getD i [] = x := by rw [List.getD, h2]; rfl
  rw [← e]
  exact z743 hi (z962 hg h hi)
theorem z888 {k : Kitchen} (hg : KitGood k) : ∀ r ∈ (planL k k.days.length).2, r.length < 2 ^ 30 := fun r hr => by
  obtain ⟨i, hi⟩ := List.mem_iff_getElem?.1 hr
  have hlt : i < k.days.length := by have := (List.getElem?_eq_some_iff.1 hi).1; rwa [z59] at this
  rw [z179 k i _ hlt] at hi
  cases hi
  obtain ⟨p1, p2⟩ := z140 hg i (by omega)
  have := (z266 hg hlt p2 p1).1.len
  omega
def suitsP (k : Kitchen) (no : Int) : List Int × Int := if kitE k = 0 then (if setB no = true then (suitL k no, 0) else ([], 1)) else ([], kitE k)
def readyB (k : Kitchen) : Bool := !far7 k && (kitE k == 0)
end Go.Ab
namespace Go.Ab
open Go.RowKit Go.Proofs
set_option maxHeartbeats 16000000
set_option maxRecDepth 20000
attribute [local irreducible] WalkL Walk
theorem z1106 (k : Kitchen) (hg : KitWide k) (ds cs : List Int) (good : Nat) (hgd : good < k.allerg.length) (hd : DayOk k ds fun g => getI cs (g : Int)) (hl : cs.length = ds.length) :
    Fn Try.prog 26 [.agg k.cells, .sl (intRows ds), .sl (intRows cs), .i (good : Int)] (.i (needG k ds (fun g => getI cs (g : Int)) good ds.length)) := by
  have hdl := hd.len
  obtain ⟨f, hf⟩ : ∃ f : Nat → Int, f = needG k ds (fun g => getI cs (g : Int)) good := ⟨_, rfl⟩
  have hf0 : f 0 = 0 := by rw [hf]; rfl
  have hfs : ∀ i, f (i + 1) = f i + getI (dishAt k (getI ds (i : Int))).needs (good : Int) * getI cs (i : Int) := fun i => by rw [hf]; rfl
  have hfr : ∀ i, i ≤ ds.length → 0 ≤ f i ∧ f i ≤ 500000 * i := fun i hi => by rw [hf]; exact z129 hg hd good i hi
  rw [← hf]
  have hng : ¬ ((good : Int) < 0) := by omega
  refine z18 37 Try.call26 Try.func26 rfl (by decide) fun J => ?_
  simp (maxSteps := 4000000) only [go_sem, St.start, Try.ntmps26, Try.results26, Kitchen.cells]
  repeat (first | refine nx ?_ | (refine z10 fun K hK => ?_; simp (maxSteps := 4000000) only [go_sem]; refine hK _ ?_; clear hK K))
  refine z15 (fun (i : Nat) => [(10, .d (.i (i : Int))), (9, .d (.i (f i)))]) (fun _ => []) (fun i => i ≤ ds.length) (fun i => ds.length - i) 0 ?_ (Nat.zero_le _) ?_
  · rw [hf0]
    simp (maxSteps := 4000000) only [go_sem]
    refine z13 [] ?_ ?_ rfl rfl <;> simp [lessT, lessM, lessB, AV.less]
    all_goals first | done | rfl | trace_state
  · intro i hi
    simp (maxSteps := 4000000) only [go_sem]
    repeat (first | refine nx ?_ | (refine z10 fun K hK => ?_; simp (maxSteps := 4000000) only [go_sem, z19]; refine hK _ ?_; clear hK K))
    refine z14 rfl (fun hb => ?_) (fun hb => ?_)
    · have hlt : i < ds.length := by simpa using hb
      have hw : IntKind.i64.wrap ((i : Int) + 1) = ((i + 1 : Nat) : Int) := by rw [z16 (by omega)]; simp
      obtain ⟨n, hn, hnl⟩ := hd.dish i hlt
      have g1 := z37 hn
      have gd := z495 hnl
      have hnl2 := z298 hg hnl
      have e : getI ds (i : Int) = n := by rw [getI, Int.toNat_natCast, List.getD, hn]; rfl
      have hq := z348 hg hnl (good : Int)
      have hfi := hfs i
      rw [e] at hfi
      have gc := z21 (l := cs) (i := i) (by omega)
      obtain ⟨N, hN⟩ : ∃ N, N = (dishAt k (n : Int)).needs := ⟨_, rfl⟩
      rw [← hN] at hnl2 gd hq hfi
      have gN := z21 (l := N) (i := good) (by omega)
      have hcr := hd.cnt i hlt
      have r1 := hfr i hi
      have m1 : 0 ≤ getI N (good : Int) * getI cs (i : Int) := Int.mul_nonneg hq.1 hcr.1
      have m2 : getI N (good : Int) * getI cs (i : Int) ≤ 5000 * 100 := Int.mul_le_mul hq.2 hcr.2 hcr.1 (by decide)
      have e1 : IntKind.i64.wrap (getI N (good : Int) * getI cs (i : Int)) = getI N (good : Int) * getI cs (i : Int) := z16 (by omega)
      have e2 : IntKind.i64.wrap (f i + getI N (good : Int) * getI cs (i : Int)) = f (i + 1) := by rw [hfi]; exact z16 (by omega)
      have hni : ¬ ((i : Int) < 0) := by omega
      have hnn : ¬ ((n : Int) < 0) := by omega
      repeat (first | refine nx ?_ | (refine z10 fun K hK => ?_; simp (maxSteps := 4000000) only [go_sem]; refine hK _ ?_; clear hK K))
      refine z17 (by kernel_rfl) (by kernel_rfl) fun K hK => ?_
      simp (maxSteps := 4000000) only [go_sem, g1, gd, gN, gc, hni, hnn, hng, e1, e2]
      refine ⟨by kernel_rfl, hK _ ?_⟩
      clear hK K
      repeat (first | refine nx ?_ | (refine z10 fun K hK => ?_; simp (maxSteps := 4000000) only [go_sem, hw]; refine hK _ ?_; clear hK K))
      refine ⟨rfl, i + 1, ?_, hlt, by omega⟩
      refine z13 [] ?_ ?_ rfl rfl <;> simp [lessT, lessM, lessB, AV.less]
      all_goals first | done | rfl | trace_state
    · have he : i = ds.length := by (have : ¬ i < ds.length := by simpa using hb); omega
      subst he
      repeat (first | refine nx ?_ | (refine z10 fun K hK => ?_; simp (maxSteps := 4000000) only [go_sem]; refine hK _ ?_; clear hK K))
      simp (maxSteps := 4000000) only [go_sem]
end Go.Ab
namespace Go.Ab
open Go.RowKit Go.Proofs
def sumN (f : Nat → Int) : Nat → Int
  | 0 => 0
  | n + 1 => sumN f n + f n
theorem z396 {f g : Nat → Int} : ∀ n, (∀ i, i < n → f i = g i) → sumN f n = sumN g n
  | 0, _ => rfl
  | n + 1, h => by rw [sumN, sumN, z396 n fun i hi => h i (by omega), h n (by omega)]
theorem z309 {f : Nat → Int} : ∀ n, (∀ i, i < n → 0 ≤ f i) → 0 ≤ sumN f n
  | 0, _ => Int.le_refl _
  | n + 1, h => by
    have h1 := z309 n fun i hi => h i (by omega)
    have h2 := h n (by omega)
    rw [sumN]
    omega
theorem z114 (l : List Int) (i : Nat) : getI l (i : Int) = l.getD i 0 := by rw [getI, Int.toNat_natCast]
theorem z83 {l : List Int} {i : Nat} (hi : i < l.length) (x : Int) (j : Nat) : getI (l.set i x) (j : Int) = if j = i then x else getI l (j : Int) := by
  rw [z114, z114, List.getD_eq_getElem?_getD, List.getD_eq_getElem?_getD, List.getElem?_set]
  by_cases h : i = j
  · subst h; rw [if_pos rfl, if_pos hi, if_pos rfl]; rfl
  · rw [if_neg h, if_neg (fun e => h e.symm)]
def wOf (k : Kitchen) (q : Int → Bool) (l : List Int) : Int := sumN (fun i => if q (batAt k i).good then getI l (i : Int) else 0) k.batches.length
theorem z636 {k : Kitchen} {q : Int → Bool} {l : List Int} {i : Nat} (hi : i < k.batches.length) (hl : l.length = k.batches.length) (x : Int) : wOf k q (l.set i x) = wOf k q l + if q (batAt k i).good then x - getI l (i : Int) else 0 := by
  have key : ∀ n, sumN (fun j => if q (batAt k j).good then getI (l.set i x) (j : Int) else 0) n = sumN (fun j => if q (batAt k j).good then getI l (j : Int) else 0) n + if i < n then (if q (batAt k i).good then x - getI l (i : Int) else 0) else 0 := by
    intro n
    induction n with
    | zero => simp [sumN]
    | succ n ih =>
      rw [sumN, sumN, ih, z83 (by omega)]
      by_cases h : n = i
      · subst h
        rw [if_neg (Nat.lt_irrefl _), if_pos (Nat.lt_succ_self _), if_pos rfl]
        split <;> omega
      · rw [if_neg h]
        by_cases h2 : i < n
        · simp only [if_pos h2, if_pos (show i < n + 1 by omega)]
          rw [Int.add_right_comm]
        · simp only [if_neg h2, if_neg (show ¬ i < n + 1 by omega), Int.add_zero]
  rw [wOf, key, if_pos hi]
  rfl
theorem z776 {k : Kitchen} {good : Nat} {q : Int → Bool} {a : List Int × Int} {i : Nat} (hi : i < k.batches.length) (hl : a.1.length = k.batches.length) :
    wOf k q (takeStep k good a i).1 = wOf k q a.1 - if q good then a.2 - (takeStep k good a i).2 else 0 := by
  unfold takeStep
  split
  · rename_i hg
    dsimp only
    rw [z636 hi hl, hg]
    split <;> omega
  · split <;> omega
theorem z865 {k : Kitchen} {good : Nat} {q : Int → Bool} : ∀ (o : List Nat) {a : List Int × Int}, (∀ x ∈ o, x < k.batches.length) → a.1.length = k.batches.length →
    wOf k q (o.foldl (takeStep k good) a).1 = wOf k q a.1 - if q good then a.2 - (o.foldl (takeStep k good) a).2 else 0
  | [], a, _, _ => by simp
  | i :: o, a, ho, hl => by
    have hlen : (takeStep k good a i).1.length = k.batches.length := by
      unfold takeStep
      split
      · simpa using hl
      · exact hl
    rw [List.foldl_cons, z865 o (fun x hx => ho x (by simp [hx])) hlen, z776 (ho i (by simp)) hl]
    split <;> omega
theorem z572 {needs : List Int} (hn : ∀ x ∈ needs, 0 ≤ x) (g : Nat) : 0 ≤ getI needs (g : Int) := by
  unfold getI List.getD
  cases hy : needs[((g : Int)).toNat]? with
  | none => simp
  | some y => exact hn y (List.mem_of_getElem? hy)
theorem z763 {k : Kitchen} {day : Int} {l : List Int} {w : Int} (hl : l.length = k.batches.length) (ha : AmtOk l) : ∀ j, j ≤ k.batches.length →
    (wOf k (fun _ => true) (clrTo k day l w j).1 + (clrTo k day l w j).2 = wOf k (fun _ => true) l + w) ∧ (∀ q, wOf k q (clrTo k day l w j).1 ≤ wOf k q l) ∧ (∀ i : Nat, getI (clrTo k day l w j).1 (i : Int) ≤ getI l (i : Int)) ∧
      (∀ i : Nat, i < j → (batAt k i).last < day → getI (clrTo k day l w j).1 (i : Int) = 0) ∧ (∀ i : Nat, i < k.batches.length → ¬ (batAt k i).last < day → getI (clrTo k day l w j).1 (i : Int) = getI l (i : Int))
  | 0, _ => ⟨rfl, fun q => Int.le_refl _, fun i => Int.le_refl _, fun i h => by omega, fun _ _ _ => rfl⟩
  | j + 1, hj => by
    obtain ⟨h1, h2, h3, h4, h5⟩ := z763 (day := day) (w := w) hl ha j (by omega)
    have hlj := z39 k day l w j
    obtain ⟨k1, k2, k3⟩ := z47 (k := k) (day := day) (w := w) ha j
    rw [clrTo]
    split
    · rename_i hlast
      have hg := k1.get (j : Int)
      dsimp only
      refine ⟨?_, fun q => ?_, fun i => ?_, fun i hi hlt => ?_, fun i hi hnl => ?_⟩
      · rw [z636 (by omega) (by omega), if_pos rfl]
        omega
      · rw [z636 (by omega) (by omega)]
        have := h2 q
        split <;> omega
      · rw [z83 (by omega)]
        split
        · rename_i e
          subst e
          exact (ha.get _).1
        · exact h3 i
      · rw [z83 (by omega)]
        split
        · rfl
        · exact h4 i (by omega) hlt
      · rw [z83 (by omega)]
        split
        · rename_i e
          subst e
          exact absurd hlast hnl
        · exact h5 i hi hnl
    · rename_i hlast
      refine ⟨h1, h2, h3, fun i hi hlt => ?_, h5⟩
      by_cases e : i = j
      · subst e; exact absurd hlt hlast
      · exact h4 i (by omega) hlt
theorem z487 (k : Kitchen) (M : List (List Int)) (cnt : Nat → Nat → Int) : ∀ n, lastD k M cnt n ≤ n
  | 0 => Nat.le_refl _
  | n + 1 => by
    rw [lastD]
    split
    · exact Nat.le_refl _
    · exact Nat.le_succ_of_le (z487 k M cnt n)
structure Kept (k : Kitchen) (M : List (List Int)) (cnt : Nat → Nat → Int) (d : Nat) (a : List Int × Int) : Prop where
  total : wOf k (fun _ => true) (amtK k) = wOf k (fun _ => true) a.1 + a.2 + sumN (fun e => sumN (fun g => getI (needD k M cnt e) (g : Int)) k.allerg.length) d
  good : ∀ g : Nat, g < k.allerg.length → wOf k (fun x => decide (x = (g : Int))) a.1 + sumN (fun e => getI (needD k M cnt e) (g : Int)) d ≤ wOf k (fun x => decide (x = (g : Int))) (amtK k)
  le : ∀ i : Nat, getI a.1 (i : Int) ≤ getI (amtK k) (i : Int)
  dead : ∀ i : Nat, i < k.batches.length → (batAt k i).last < (d : Int) - 1 → getI a.1 (i : Int) ≤ 0
end Go.Ab
namespace Go.Ab
open Go.RowKit Go.Proofs
set_option maxHeartbeats 16000000
set_option maxRecDepth 20000
attribute [local irreducible] WalkL Walk
theorem z1009 {k : Kitchen} (hg : KitWide k) {i : Nat} (h : i < k.batches.length) : (0 ≤ (batAt k i).good ∧ (batAt k i).good < k.allerg.length) ∧ (0 ≤ (batAt k i).amount ∧ (batAt k i).amount ≤ 9000000) ∧ (0 ≤ (batAt k i).last ∧ (batAt k i).last ≤ 30) := by
  have : batAt k i ∈ k.batches := by rw [batAt, List.getD_eq_getElem?_getD, List.getElem?_eq_getElem h]; exact List.getElem_mem h
  exact hg.batch _ this
theorem z549 {M : List (List Int)} {j : Nat} (h : j < M.length) : (listRows M)[j]? = some [.sl (intRows (M.getD j []))] := by
  have e : M.getD j [] = M[j] := by rw [List.getD_eq_getElem?_getD, List.getElem?_eq_getElem h]; rfl
  rw [e]
  exact z40 (List.getElem?_eq_getElem h)
structure KeptN (k : Kitchen) (G n D : Nat) (A L : Nat → Int) (W : Int) (nd : Nat → Nat → Int) : Prop where
  amt : ∀ i, i < n → 0 ≤ A i ∧ A i ≤ 9000000
  left : ∀ i, i < n → 0 ≤ L i ∧ L i ≤ A i
  waste : 0 ≤ W ∧ W ≤ 1000000000
  need : ∀ d g, d < D → g < G → 0 ≤ nd d g ∧ nd d g ≤ 1500000
  total : sumN A n = sumN L n + W + sumN (fun g => sumN (fun d => nd d g) D) G
  good : ∀ g, g < G → sumN (fun d => nd d g) D ≤ sumN (fun i => if (batAt k i).good = (g : Int) then A i - L i else 0) n
  dead : ∀ i, i < n → D = k.days.length → (batAt k i).last < (D : Int) - 1 → L i ≤ 0
end Go.Ab
namespace Go.Ab
open Go.RowKit Go.Proofs
theorem z401 (f : Nat → Int) : ∀ (j : Nat) (P : List Nat) (x : Nat) (T : List Nat), P.length = j →
    ∃ P1 P2, P = P1 ++ P2 ∧ sinkN f (P ++ x :: T) j = P1 ++ x :: P2 ++ T ∧ (∀ y ∈ P2, f x < f y) ∧ (P1 = [] ∨ ∃ Q y, P1 = Q ++ [y] ∧ ¬ f x < f y)
  | 0, P, x, T, h => by
    rw [List.length_eq_zero_iff] at h
    subst h
    exact ⟨[], [], rfl, rfl, (fun y hy => by cases hy), .inl rfl⟩
  | j + 1, P, x, T, h => by
    have hne : P ≠ [] := by intro e; subst e; simp at h
    obtain ⟨Q, y, rfl⟩ : ∃ Q y, P = Q ++ [y] := ⟨P.dropLast, P.getLast hne, (List.dropLast_concat_getLast hne).symm⟩
    have hQ : Q.length = j := by simpa using h
    have g1 : (Q ++ [y] ++ x :: T).getD (j + 1) 0 = x := by
      rw [List.getD_eq_getElem?_getD, List.append_assoc, List.getElem?_append_right (by omega), hQ]
      simp
    have g0 : (Q ++ [y] ++ x :: T).getD j 0 = y := by
      rw [List.getD_eq_getElem?_getD, List.append_assoc, List.getElem?_append_right (by omega), hQ]
      simp
    rw [sinkN, g1, g0]
    by_cases hlt : f x < f y
    · rw [if_pos hlt]
      have hsw : swapN (Q ++ [y] ++ x :: T) j = Q ++ x :: (y :: T) := by
        rw [swapN, g1, g0, List.append_assoc, List.set_append_right _ _ (by omega), List.set_append_right _ _ (by omega), hQ]
        simp
      rw [hsw]
      obtain ⟨P1, P2, e1, e2, e3, e4⟩ := z401 f j Q x (y :: T) hQ
      refine ⟨P1, P2 ++ [y], by rw [e1, List.append_assoc], by rw [e2]; simp, fun z hz => ?_, e4⟩
      rcases List.mem_append.1 hz with hz | hz
      · exact e3 z hz
      · rw [List.mem_singleton.1 hz]; exact hlt
    · rw [if_neg hlt]
      exact ⟨Q ++ [y], [], by simp, by simp, (fun z hz => by cases hz), .inr ⟨Q, y, rfl, hlt⟩⟩
def Ahead (f : Nat → Int) (a b : Nat) : Prop := f a < f b ∨ (f a = f b ∧ a < b)
theorem z415 (f : Nat → Int) (n : Nat) : ∀ i, i < n → ∃ S, insN f (List.range n) i = S ++ List.range' (i + 1) (n - (i + 1)) ∧ S.Perm (List.range (i + 1)) ∧ S.Pairwise (Ahead f)
  | 0, h => by
    refine ⟨[0], ?_, List.Perm.refl _, by simp⟩
    rw [insN, List.range_eq_range', show n = (n - 1) + 1 by omega, List.range'_succ]
    simp
  | i + 1, h => by
    obtain ⟨S, e1, e2, e3⟩ := z415 f n i (by omega)
    have hl : S.length = i + 1 := by rw [e2.length_eq, List.length_range]
    rw [insN, e1, show n - (i + 1) = (n - (i + 1 + 1)) + 1 by omega, List.range'_succ]
    obtain ⟨P1, P2, p1, p2, p3, p4⟩ := z401 f (i + 1) S (i + 1) (List.range' (i + 1 + 1) (n - (i + 1 + 1))) hl
    subst p1
    have hlt : ∀ z ∈ P1 ++ P2, z < i + 1 := fun z hz => List.mem_range.1 (e2.mem_iff.1 hz)
    refine ⟨P1 ++ (i + 1) :: P2, by rw [p2], ?_, ?_⟩
    · rw [List.range_succ]
      exact List.perm_middle.trans ((e2.cons (i + 1)).trans (List.perm_append_comm (l₁ := [i + 1])))
    · rw [List.pairwise_append] at e3 ⊢
      obtain ⟨a1, a2, a3⟩ := e3
      have hle : ∀ a ∈ P1, f a ≤ f (i + 1) := fun a ha => by
        rcases p4 with p4 | ⟨Q, y, rfl, hny⟩
        · rw [p4] at ha; cases ha
        · rcases List.mem_append.1 ha with hq | hq
          · rw [List.pairwise_append] at a1
            have := a1.2.2 a hq y (by simp)
            rcases this with h1 | h1 <;> omega
          · rw [List.mem_singleton.1 hq]; omega
      refine ⟨a1, List.pairwise_cons.2 ⟨fun b hb => .inl (p3 b hb), a2⟩, fun a ha b hb => ?_⟩
      rcases List.mem_cons.1 hb with rfl | hb
      · have h1 := hle a ha
        have h2 := hlt a (by simp [ha])
        by_cases e : f a = f (i + 1)
        · exact .inr ⟨e, h2⟩
        · exact .inl (by omega)
      · exact a3 a ha b hb
theorem z200 (k : Kitchen) : (ordK k).Perm (List.range k.batches.length) ∧ (ordK k).Pairwise (Ahead fun i => (batAt k i).last) := by
  unfold ordK
  obtain ⟨n, hn⟩ : ∃ n, n = k.batches.length := ⟨_, rfl⟩
  rw [← hn]
  cases n with
  | zero => exact ⟨List.Perm.refl _, List.Pairwise.nil⟩
  | succ n =>
    obtain ⟨S, e1, e2, e3⟩ := z415 (fun i => (batAt k i).last) (n + 1) n (by omega)
    rw [Nat.add_sub_cancel, e1, Nat.sub_self, List.range'_zero, List.append_nil]
    exact ⟨e2, e3⟩
def sumO (f : Nat → Int) : List Nat → Int
  | [] => 0
  | i :: o => f i + sumO f o
theorem z872 {f : Nat → Int} {a b : List Nat} (h : a.Perm b) : sumO f a = sumO f b := by
  induction h with
  | nil => rfl
  | cons x _ ih => rw [sumO, sumO, ih]
  | swap x y l => simp only [sumO]; omega
  | trans _ _ h1 h2 => rw [h1, h2]
theorem z308 (f : Nat → Int) : ∀ a b, sumO f (a ++ b) = sumO f a + sumO f b
  | [], b => by simp [sumO]
  | x :: a, b => by rw [List.cons_append, sumO, sumO, z308 f a b]; omega
theorem z395 (f : Nat → Int) : ∀ n, sumO f (List.range n) = sumN f n
  | 0 => rfl
  | n + 1 => by rw [List.range_succ, z308, z395 f n, sumN]; simp [sumO]
theorem z119 {f g : Nat → Int} : ∀ o, (∀ i ∈ o, f i = g i) → sumO f o = sumO g o
  | [], _ => rfl
  | x :: o, h => by rw [sumO, sumO, h x (by simp), z119 o fun i hi => h i (by simp [hi])]
theorem z873 {f g : Nat → Int} : ∀ o, (∀ i ∈ o, f i ≤ g i) → sumO f o ≤ sumO g o
  | [], _ => Int.le_refl _
  | x :: o, h => by
    have := h x (by simp)
    have := z873 o fun i hi => h i (by simp [hi])
    rw [sumO, sumO]; omega
theorem z307 {f : Nat → Int} : ∀ o, (∀ i ∈ o, 0 ≤ f i) → 0 ≤ sumO f o
  | [], _ => Int.le_refl _
  | x :: o, h => by
    have := h x (by simp)
    have := z307 o fun i hi => h i (by simp [hi])
    rw [sumO]; omega
def vO (k : Kitchen) (g : Nat) (t : Int) (l : List Int) (o : List Nat) : Int := sumO (fun i => if (batAt k i).good = (g : Int) ∧ t ≤ (batAt k i).last then getI l (i : Int) else 0) o
theorem z1058 {k : Kitchen} {g : Nat} {t : Int} {l : List Int} {i : Nat} {x : Int} (hi : i < l.length) {o : List Nat} (ho : i ∉ o) : vO k g t (l.set i x) o = vO k g t l o := z119 o fun j hj => by
  have e : getI (l.set i x) (j : Int) = getI l (j : Int) := by rw [z83 hi, if_neg (fun e => ho (by rw [← e]; exact hj))]
  rw [e]
theorem z238 (k : Kitchen) (g : Nat) (t : Int) (l : List Int) (i : Nat) (o : List Nat) : vO k g t l (i :: o) = (if (batAt k i).good = (g : Int) ∧ t ≤ (batAt k i).last then getI l (i : Int) else 0) + vO k g t l o := rfl
theorem z859 {k : Kitchen} {g : Nat} {t : Int} {l : List Int} (h : AmtOk l) (o : List Nat) : 0 ≤ vO k g t l o := z307 o fun i _ => by
  have := (h.get (i : Int)).1
  split <;> omega
theorem z1011 {k : Kitchen} {g : Nat} {t u : Int} (htu : t ≤ u) {l : List Int} (h : AmtOk l) (o : List Nat) : vO k g u l o ≤ vO k g t l o := z873 o fun i _ => by
  have := (h.get (i : Int)).1
  by_cases h1 : (batAt k i).good = (g : Int) ∧ u ≤ (batAt k i).last
  · rw [if_pos h1, if_pos ⟨h1.1, by omega⟩]; exact Int.le_refl _
  · rw [if_neg h1]
    split <;> omega
theorem z430 {k : Kitchen} {g : Nat} : ∀ (o : List Nat) (l : List Int) (m : Int), o.Nodup → o.Pairwise (Ahead fun i => (batAt k i).last) → (∀ x ∈ o, x < l.length) → AmtOk l → 0 ≤ m → (∀ i ∈ o, 0 ≤ (batAt k i).last) → m ≤ vO k g 0 l o →
    (o.foldl (takeStep k g) (l, m)).2 = 0 ∧ ∀ t : Int, 0 ≤ t → vO k g t (o.foldl (takeStep k g) (l, m)).1 o = min (vO k g t l o) (vO k g 0 l o - m)
  | [], l, m, _, _, _, _, hm, _, h => by
    simp only [vO, sumO] at h ⊢
    have : m = 0 := by omega
    subst this
    exact ⟨rfl, fun t _ => rfl⟩
  | i :: o, l, m, hnd, hp, hx, ha, hm, hlast, h => by
    rw [List.nodup_cons] at hnd
    rw [List.pairwise_cons] at hp
    have hil := hx i (by simp)
    have hli := ha.get (i : Int)
    rw [List.foldl_cons]
    -- one step
    obtain ⟨s1, s2, s3, s4⟩ := z100 (k := k) (good := g) (a := (l, m)) (i := i) ha hm
    have hkeep : ∀ (a : List Int × Int) (o : List Nat), i ∉ o → i < a.1.length → (∀ x ∈ o, x < a.1.length) → getI (o.foldl (takeStep k g) a).1 (i : Int) = getI a.1 (i : Int) := by
      intro a o
      induction o generalizing a with
      | nil => intro _ _ _; rfl
      | cons j o ih =>
        intro hni hia hxo
        rw [List.foldl_cons]
        have hlen : (takeStep k g a j).1.length = a.1.length := by unfold takeStep; split <;> simp
        rw [ih _ (fun hc => hni (by simp [hc])) (by rw [hlen]; exact hia) (fun x hx => by rw [hlen]; exact hxo x (by simp [hx]))]
        unfold takeStep
        split
        · rw [z83 (hxo j (by simp)), if_neg (fun e => hni (by simp [e]))]
        · rfl
    by_cases hg : (batAt k i).good = (g : Int)
    · have hstep : takeStep k g (l, m) i = (l.set i (getI l (i : Int) - min m (getI l (i : Int))), m - min m (getI l (i : Int))) := by rw [takeStep, if_pos hg]
      rw [hstep] at s1 s2 s3 ⊢
      dsimp only at s1 s2 s3
      obtain ⟨x, hxd⟩ : ∃ x, x = min m (getI l (i : Int)) := ⟨_, rfl⟩
      rw [← hxd] at s1 s2 s3 ⊢
      have hx1 : 0 ≤ x ∧ x ≤ m ∧ x ≤ getI l (i : Int) := by omega
      have hv0 : ∀ t, vO k g t (l.set i (getI l (i : Int) - x)) o = vO k g t l o := fun t => z1058 hil hnd.1
      have h0 : vO k g 0 l (i :: o) = getI l (i : Int) + vO k g 0 l o := by rw [z238, if_pos ⟨hg, hlast i (by simp)⟩]
      rw [h0] at h
      have hno := z859 (k := k) (g := g) (t := 0) ha o
      obtain ⟨r1, r2⟩ := z430 o (l.set i (getI l (i : Int) - x)) (m - x) hnd.2 hp.2 (fun y hy => by rw [s2]; exact hx y (by simp [hy])) s1 s3 (fun y hy => hlast y (by simp [hy])) (by rw [hv0]; omega)
      refine ⟨r1, fun t ht => ?_⟩
      have hk := hkeep (l.set i (getI l (i : Int) - x), m - x) o hnd.1 (by rw [s2]; exact hil) (fun y hy => by rw [s2]; exact hx y (by simp [hy]))
      rw [z83 hil, if_pos rfl] at hk
      have r2t := r2 t ht
      rw [hv0, hv0] at r2t
      have hmono := z1011 (k := k) (g := g) ht ha o
      by_cases hl2 : t ≤ (batAt k i).last
      · have z45 : vO k g t l o = vO k g 0 l o := z119 o fun j hj => by
          have : (batAt k i).last ≤ (batAt k j).last := by
            have q := hp.1 j hj
            simp only [Ahead] at q
            omega
          by_cases hgj : (batAt k j).good = (g : Int)
          · rw [if_pos ⟨hgj, by omega⟩, if_pos ⟨hgj, by omega⟩]
          · rw [if_neg (fun e => hgj e.1), if_neg (fun e => hgj e.1)]
        rw [z238, z238, if_pos ⟨hg, hl2⟩, if_pos ⟨hg, hl2⟩, hk, r2t, h0]
        omega
      · rw [z238, z238, if_neg (fun e => hl2 e.2), if_neg (fun e => hl2 e.2), r2t, h0]
        omega
    · have hstep : takeStep k g (l, m) i = (l, m) := by rw [takeStep, if_neg hg]
      rw [hstep]
      have h0 : ∀ (t : Int) (c : List Int), vO k g t c (i :: o) = vO k g t c o := fun t c => by rw [z238, if_neg (fun e => hg e.1), Int.zero_add]
      rw [h0] at h
      obtain ⟨r1, r2⟩ := z430 o l m hnd.2 hp.2 (fun y hy => hx y (by simp [hy])) ha hm (fun y hy => hlast y (by simp [hy])) h
      exact ⟨r1, fun t ht => by rw [h0, h0, h0]; exact r2 t ht⟩
end Go.Ab
namespace Go.Ab
open Go.RowKit Go.Proofs
def vK (k : Kitchen) (g : Nat) (t : Int) (l : List Int) : Int := vO k g t l (List.range k.batches.length)
theorem z860 (k : Kitchen) (g : Nat) (t : Int) (l : List Int) : vO k g t l (ordK k) = vK k g t l := z872 (z200 k).1
theorem z243 {k : Kitchen} {g good : Nat} (hne : g ≠ good) (t : Int) (p : List Nat) : ∀ (o : List Nat) (a : List Int × Int), (∀ x ∈ o, x < a.1.length) → vO k g t (o.foldl (takeStep k good) a).1 p = vO k g t a.1 p
  | [], a, _ => rfl
  | i :: o, a, h => by
    have hlen : (takeStep k good a i).1.length = a.1.length := by unfold takeStep; split <;> simp
    rw [List.foldl_cons, z243 hne t p o _ (fun x hx => by rw [hlen]; exact h x (by simp [hx]))]
    unfold takeStep
    split
    · rename_i hg
      refine z119 p fun j _ => ?_
      have hil := h i (by simp)
      by_cases e : j = i
      · subst e
        rw [if_neg (fun c => hne (by have := c.1; omega)), if_neg (fun c => hne (by have := c.1; omega))]
      · have e2 := z83 hil (getI a.1 (i : Int) - min a.2 (getI a.1 (i : Int))) j
        rw [if_neg e] at e2
        dsimp only
        rw [e2]
    · rfl
theorem z394 {k : Kitchen} (hg : KitWide k) {needs C : List Int} (hl : C.length = k.batches.length) (ha : AmtOk C) (hn : ∀ x ∈ needs, 0 ≤ x) : ∀ G,
    ((takeTo k (ordK k) needs C G).isSome = true ↔ ∀ g, g < G → getI needs (g : Int) ≤ vK k g 0 C) ∧
      ∀ c, takeTo k (ordK k) needs C G = some c → (∀ g, g < G → ∀ t : Int, 0 ≤ t → vK k g t c = min (vK k g t C) (vK k g 0 C - getI needs (g : Int))) ∧ ∀ g, G ≤ g → ∀ t : Int, vK k g t c = vK k g t C
  | 0 => ⟨⟨fun _ g h => by omega, fun _ => rfl⟩, fun c hc => by cases hc; exact ⟨fun g h => by omega, fun _ _ _ => rfl⟩⟩
  | G + 1 => by
    obtain ⟨ih1, ih2⟩ := z394 hg hl ha hn G
    obtain ⟨o1, o2⟩ := z200 k
    have hnd : (ordK k).Nodup := o1.nodup_iff.2 List.nodup_range
    rw [takeTo]
    cases hx : takeTo k (ordK k) needs C G with
    | none =>
      rw [hx] at ih1
      refine ⟨⟨(fun h => by cases h), fun h => ?_⟩, (fun c hc => by cases hc)⟩
      have := ih1.2 fun g hgl => h g (by omega)
      cases this
    | some d =>
      obtain ⟨d1, d2⟩ := z99 ha hn G d hx
      obtain ⟨v1, v2⟩ := ih2 d hx
      rw [hx] at ih1
      have i1 := ih1.1 rfl
      have hng := z572 hn G
      have hxl : ∀ x ∈ ordK k, x < d.length := fun x hx => by rw [d2, hl]; exact z46 hx
      have hw := z865 (k := k) (good := G) (q := fun x => decide (x = (G : Int))) (ordK k) (a := (d, getI needs (G : Int))) (fun x hx => z46 hx) (by rw [d2, hl])
      obtain ⟨k1, k2, k3, k4⟩ := z173 (k := k) (good := G) (ordK k) (a := (d, getI needs (G : Int))) d1 hng
      have hv0 : vK k G 0 d = wOf k (fun x => decide (x = (G : Int))) d := by
        rw [vK, vO, z395, wOf]
        refine z396 _ fun i hi => ?_
        have := (z1009 hg hi).2.2.1
        by_cases e : (batAt k i).good = (G : Int)
        · rw [if_pos ⟨e, this⟩, if_pos (decide_eq_true e)]
        · rw [if_neg (fun c => e c.1), if_neg (by simpa using e)]
      have hpos : 0 ≤ wOf k (fun x => decide (x = (G : Int))) ((ordK k).foldl (takeStep k G) (d, getI needs (G : Int))).1 := z309 _ fun i _ => by
        have := (k1.get (i : Int)).1
        split <;> omega
      dsimp only at hw ⊢
      rw [if_pos (decide_eq_true rfl)] at hw
      have edf := fun h => z430 (k := k) (g := G) (ordK k) d (getI needs (G : Int)) hnd o2 hxl d1 hng (fun i hi => (z1009 hg (z46 hi)).2.2.1) h
      rw [z860] at edf
      have hvG := v2 G (Nat.le_refl _) 0
      by_cases hz : (takeG k (ordK k) G d (getI needs (G : Int))).2 > 0
      · rw [if_pos hz]
        refine ⟨⟨(fun h => by cases h), fun h => ?_⟩, (fun c hc => by cases hc)⟩
        have := (edf (by rw [hvG]; exact h G (by omega))).1
        unfold takeG at hz
        omega
      · rw [if_neg hz]
        have hm : ((ordK k).foldl (takeStep k G) (d, getI needs (G : Int))).2 = 0 := by unfold takeG at hz; omega
        rw [hm] at hw
        have hle : getI needs (G : Int) ≤ vK k G 0 d := by omega
        refine ⟨⟨fun _ g hgl => ?_, fun _ => rfl⟩, fun c hc => ?_⟩
        · by_cases e : g = G
          · subst e; rw [← hvG]; exact hle
          · exact i1 g (by omega)
        · cases hc
          refine ⟨fun g hgl t ht => ?_, fun g hgl t => ?_⟩
          · by_cases e : g = G
            · subst e
              have := (edf hle).2 t ht
              rw [z860, z860] at this
              rw [takeG, this, v2 g (Nat.le_refl _), v2 g (Nat.le_refl _)]
            · have := z243 (k := k) (g := g) (good := G) e t (List.range k.batches.length) (ordK k) (d, getI needs (G : Int)) hxl
              rw [takeG]
              exact this.trans (v1 g (by omega) t ht)
          · have := z243 (k := k) (g := g) (good := G) (by omega) t (List.range k.batches.length) (ordK k) (d, getI needs (G : Int)) hxl
            rw [takeG]
            exact this.trans (v2 g (by omega) t)
theorem z1094 {k : Kitchen} {d : Nat} {l : List Int} {w : Int} (hl : l.length = k.batches.length) (ha : AmtOk l) (g : Nat) (t : Int) : vK k g t (clrTo k (d : Int) l w k.batches.length).1 = vK k g (max t (d : Int)) l := by
  obtain ⟨_, _, _, h4, h5⟩ := z763 (day := (d : Int)) (w := w) hl ha k.batches.length (Nat.le_refl _)
  refine z119 _ fun i hi => ?_
  have hi := List.mem_range.1 hi
  by_cases hd : (batAt k i).last < (d : Int)
  · rw [h4 i hi hd, if_neg (fun c : (batAt k i).good = (g : Int) ∧ max t (d : Int) ≤ (batAt k i).last => by have := c.2; omega)]
    split <;> rfl
  · rw [h5 i hi hd]
    by_cases hc : (batAt k i).good = (g : Int) ∧ t ≤ (batAt k i).last
    · rw [if_pos hc, if_pos ⟨hc.1, by have := hc.2; omega⟩]
    · rw [if_neg hc, if_neg (fun c => hc ⟨c.1, by have := c.2; omega⟩)]
def sumF (f : Nat → Int) : Nat → Nat → Int
  | _, 0 => 0
  | t, c + 1 => f t + sumF f (t + 1) c
theorem z310 {f : Nat → Int} : ∀ c t, (∀ i, t ≤ i → i < t + c → 0 ≤ f i) → 0 ≤ sumF f t c
  | 0, _, _ => Int.le_refl _
  | c + 1, t, h => by
    have := h t (Nat.le_refl _) (by omega)
    have := z310 (f := f) c (t + 1) fun i h1 h2 => h i (by omega) (by omega)
    rw [sumF]; omega
theorem z465 {f : Nat → Int} {t D : Nat} (h : t < D) : sumF f t (D - t) = f t + sumF f (t + 1) (D - (t + 1)) := by
  rw [show D - t = (D - (t + 1)) + 1 by omega, sumF]
theorem z874 {f : Nat → Int} {D : Nat} {d : Nat} (h : ∀ i, d ≤ i → i < D → 0 ≤ f i) : ∀ j, d + j ≤ D → sumF f (d + j) (D - (d + j)) ≤ sumF f d (D - d)
  | 0, _ => Int.le_refl _
  | j + 1, hj => by
    have ih := z874 h j (by omega)
    rw [z465 (show d + j < D by omega)] at ih
    have := h (d + j) (by omega) (by omega)
    rw [show d + (j + 1) = d + j + 1 by omega]
    omega
structure DayStep (k : Kitchen) (l l' : List Int) (d : Nat) (nd : Nat → Int) : Prop where
  val : ∀ g, g < k.allerg.length → ∀ t : Nat, d ≤ t → vK k g (t : Int) l' = min (vK k g (t : Int) l) (vK k g (d : Int) l - nd g)
theorem z954 {k : Kitchen} (hg : KitWide k) {M : List (List Int)} (hM : shapedB (menuB k) M k.days = true) {cnt : Nat → Nat → Int} (hc : CntOk k cnt) {d : Nat} {b : List Int × Int} (hd : d < M.length) (hb : runSt k M cnt d = some b) :
    ((runSt k M cnt (d + 1)).isSome = true ↔ ∀ g, g < k.allerg.length → getI (needD k M cnt d) (g : Int) ≤ vK k g (d : Int) b.1) ∧
      ∀ a, runSt k M cnt (d + 1) = some a → DayStep k b.1 a.1 d fun g => getI (needD k M cnt d) (g : Int) := by
  obtain ⟨r1, r2, r3, r4⟩ := z219 hg hM hc d b (by omega) hb
  obtain ⟨r, hr⟩ : ∃ r, M[d]? = some r := ⟨_, List.getElem?_eq_getElem hd⟩
  obtain ⟨_, _, hdo⟩ := z154 hg hM hc hr
  have hnd : needD k M cnt d = needL k r (cnt d) := by rw [needD, List.getD, hr]; rfl
  have hn0 : ∀ x ∈ needD k M cnt d, 0 ≤ x := fun x hx => by rw [hnd] at hx; exact (z56 hg hdo x hx).1
  obtain ⟨c1, c2, c3⟩ := z47 (k := k) (day := (d : Int)) (w := b.2) r1 k.batches.length
  have c4 := z39 k (d : Int) b.1 b.2 k.batches.length
  obtain ⟨t1, t2⟩ := z394 hg (C := (clrTo k (d : Int) b.1 b.2 k.batches.length).1) (by omega) c1 hn0 k.allerg.length
  have hv : ∀ g t, vK k g t (clrTo k (d : Int) b.1 b.2 k.batches.length).1 = vK k g (max t (d : Int)) b.1 := fun g t => z1094 r2 r1 g t
  have e : runSt k M cnt (d + 1) = (takeTo k (ordK k) (needD k M cnt d) (clrTo k (d : Int) b.1 b.2 k.batches.length).1 k.allerg.length).map fun l => (l, (clrTo k (d : Int) b.1 b.2 k.batches.length).2) := by rw [runSt, hb]; rfl
  rw [e]
  refine ⟨?_, fun a ha => ?_⟩
  · rw [Option.isSome_map, t1]
    refine forall_congr' fun g => forall_congr' fun _ => ?_
    rw [hv, show max (0 : Int) (d : Int) = (d : Int) by omega]
  · obtain ⟨l, hl, rfl⟩ := Option.map_eq_some_iff.1 ha
    refine ⟨fun g hgl t ht => ?_⟩
    have := (t2 l hl).1 g hgl (t : Int) (by omega)
    rw [hv, hv, show max (t : Int) (d : Int) = (t : Int) by omega, show max (0 : Int) (d : Int) = (d : Int) by omega] at this
    exact this
def Enough (k : Kitchen) (nd : Nat → Nat → Int) (d D : Nat) (l : List Int) : Prop := ∀ g, g < k.allerg.length → ∀ t, d ≤ t → t < D → sumF (fun e => nd e g) t (D - t) ≤ vK k g (t : Int) l
theorem z45 {k : Kitchen} (hg : KitWide k) {M : List (List Int)} (hM : shapedB (menuB k) M k.days = true) {cnt : Nat → Nat → Int} (hc : CntOk k cnt) {D : Nat} (hD : D ≤ M.length) :
    (runSt k M cnt D).isSome = true ↔ Enough k (fun e g => getI (needD k M cnt e) (g : Int)) 0 D (amtK k) := by
  obtain ⟨nd, hnd⟩ : ∃ nd : Nat → Nat → Int, nd = fun (e g : Nat) => getI (needD k M cnt e) (g : Int) := ⟨_, rfl⟩
  rw [← hnd]
  have hn0 : ∀ e g, e < D → 0 ≤ nd e g := fun e g he => by
    rw [hnd]
    obtain ⟨r, hr⟩ : ∃ r, M[e]? = some r := ⟨_, List.getElem?_eq_getElem (by omega)⟩
    obtain ⟨_, _, hdo⟩ := z154 hg hM hc hr
    have h2 : needD k M cnt e = needL k r (cnt e) := by rw [needD, List.getD, hr]; rfl
    exact z572 (fun x hx => by rw [h2] at hx; exact (z56 hg hdo x hx).1) g
  have step : ∀ d b, d < D → runSt k M cnt d = some b → ((runSt k M cnt (d + 1)).isSome = true ↔ ∀ g, g < k.allerg.length → nd d g ≤ vK k g (d : Int) b.1) ∧ ∀ a, runSt k M cnt (d + 1) = some a → DayStep k b.1 a.1 d (nd d) := fun d b hd hb => by
    rw [hnd]
    exact z954 hg hM hc (by omega) hb
  constructor
  · intro h
    -- from the last day back
    have hsome : ∀ s, s ≤ D → ∃ a, runSt k M cnt s = some a := fun s hs => by
      cases hx : runSt k M cnt s with
      | some a => exact ⟨a, rfl⟩
      | none => rw [z176 hx hs] at h; cases h
    have key : ∀ j, j ≤ D → ∀ a, runSt k M cnt (D - j) = some a → Enough k nd (D - j) D a.1 := by
      intro j
      induction j with
      | zero => intro _ a _ g _ t h1 h2; omega
      | succ j ih =>
        intro hj a ha g hgl t ht1 ht2
        obtain ⟨s, hs⟩ : ∃ s, s = D - (j + 1) := ⟨_, rfl⟩
        have hs1 : D - j = s + 1 := by omega
        rw [← hs] at ha ht1
        rw [hs1] at ih
        obtain ⟨a', ha'⟩ := hsome (s + 1) (by omega)
        obtain ⟨p1, p2⟩ := step s a (by omega) ha
        have hneed := p1.1 (by rw [ha']; rfl) g hgl
        have hval := (p2 a' ha').val g hgl
        have en := ih (by omega) a' ha' g hgl
        by_cases e : t = s
        · subst e
          rw [z465 ht2]
          by_cases e2 : t + 1 < D
          · have h1 := en (t + 1) (Nat.le_refl _) e2
            have h2 := hval (t + 1) (by omega)
            omega
          · rw [show D - (t + 1) = 0 by omega, sumF]
            omega
        · have h1 := en t (by omega) ht2
          have h2 := hval t (by omega)
          omega
    have := key D (Nat.le_refl _) (amtK k, 0) (by rw [Nat.sub_self]; rfl)
    rwa [Nat.sub_self] at this
  · intro h
    have key : ∀ s, s ≤ D → ∃ a, runSt k M cnt s = some a ∧ Enough k nd s D a.1 := by
      intro s
      induction s with
      | zero => intro _; exact ⟨(amtK k, 0), rfl, h⟩
      | succ s ih =>
        intro hs
        obtain ⟨a, ha, en⟩ := ih (by omega)
        obtain ⟨p1, p2⟩ := step s a (by omega) ha
        have hs2 : (runSt k M cnt (s + 1)).isSome = true := p1.2 fun g hgl => by
          have h1 := en g hgl s (Nat.le_refl _) (by omega)
          rw [z465 (by omega : s < D)] at h1
          have h2 := z310 (f := fun e => nd e g) (D - (s + 1)) (s + 1) fun i h1 h2 => hn0 i g (by omega)
          omega
        obtain ⟨a', ha'⟩ := Option.isSome_iff_exists.1 hs2
        refine ⟨a', ha', fun g hgl t ht1 ht2 => ?_⟩
        have hval := (p2 a' ha').val g hgl t (by omega)
        have h1 := en g hgl t (by omega) ht2
        have h2 := en g hgl s (Nat.le_refl _) (by omega)
        rw [z465 (by omega : s < D)] at h2
        have h3 := z874 (f := fun e => nd e g) (D := D) (d := s + 1) (fun i h1 h2 => hn0 i g h2) (t - (s + 1)) (by omega)
        rw [show s + 1 + (t - (s + 1)) = t by omega] at h3
        omega
    obtain ⟨a, ha, _⟩ := key D (Nat.le_refl _)
    rw [ha]
    rfl
end Go.Ab
namespace Go.Ab
open Go.RowKit Go.Proofs
set_option maxHeartbeats 16000000
set_option maxRecDepth 20000
attribute [local irreducible] WalkL Walk
def oldTo (k : Kitchen) (l : List Int) (g : Nat) : Nat → Int
  | 0 => -1
  | i + 1 => if (batAt k i).good = (g : Int) ∧ getI l (i : Int) > 0 ∧ (oldTo k l g i < 0 ∨ (batAt k i).last < (batAt k (oldTo k l g i).toNat).last) then (i : Int) else oldTo k l g i
theorem z93 (k : Kitchen) (l : List Int) (g : Nat) : ∀ n, (oldTo k l g n = -1 ∧ ∀ j : Nat, j < n → (batAt k j).good = (g : Int) → ¬ getI l (j : Int) > 0) ∨
    ∃ i : Nat, oldTo k l g n = (i : Int) ∧ i < n ∧ (batAt k i).good = (g : Int) ∧ getI l (i : Int) > 0 ∧ ∀ j : Nat, j < n → (batAt k j).good = (g : Int) → getI l (j : Int) > 0 → j ≠ i → Ahead (fun i => (batAt k i).last) i j
  | 0 => .inl ⟨rfl, fun j h => by omega⟩
  | n + 1 => by
    rw [oldTo]
    by_cases hg : (batAt k n).good = (g : Int) ∧ getI l (n : Int) > 0
    · rcases z93 k l g n with ⟨h1, h2⟩ | ⟨i, h1, h2, h3, h4, h5⟩
      · rw [h1, if_pos ⟨hg.1, hg.2, .inl (by decide)⟩]
        refine .inr ⟨n, rfl, Nat.lt_succ_self _, hg.1, hg.2, fun j hj hgj hlj hne => absurd hlj (h2 j (by omega) hgj)⟩
      · rw [h1, Int.toNat_natCast]
        by_cases hl : (batAt k n).last < (batAt k i).last
        · rw [if_pos ⟨hg.1, hg.2, .inr hl⟩]
          refine .inr ⟨n, rfl, Nat.lt_succ_self _, hg.1, hg.2, fun j hj hgj hlj hne => ?_⟩
          by_cases e : j = i
          · subst e; exact .inl hl
          · have := h5 j (by omega) hgj hlj e
            simp only [Ahead] at this ⊢
            omega
        · rw [if_neg (fun c => by rcases c.2.2 with c | c <;> omega)]
          refine .inr ⟨i, rfl, by omega, h3, h4, fun j hj hgj hlj hne => ?_⟩
          by_cases e : j = n
          · subst e
            simp only [Ahead]
            omega
          · exact h5 j (by omega) hgj hlj hne
    · rw [if_neg (fun c => hg ⟨c.1, c.2.1⟩)]
      rcases z93 k l g n with ⟨h1, h2⟩ | ⟨i, h1, h2, h3, h4, h5⟩
      · refine .inl ⟨h1, fun j hj hgj => ?_⟩
        by_cases e : j = n
        · subst e; exact fun c => hg ⟨hgj, c⟩
        · exact h2 j (by omega) hgj
      · refine .inr ⟨i, h1, by omega, h3, h4, fun j hj hgj hlj hne => ?_⟩
        by_cases e : j = n
        · subst e; exact absurd ⟨hgj, hlj⟩ hg
        · exact h5 j (by omega) hgj hlj hne
theorem z741 {l : List Int} {i : Nat} (hi : i < l.length) : l.set i (getI l (i : Int)) = l := by
  refine List.ext_getElem? fun j => ?_
  rw [List.getElem?_set]
  by_cases h : i = j
  · subst h
    rw [if_pos rfl, if_pos hi, z114, List.getD_eq_getElem?_getD, List.getElem?_eq_getElem hi]
    rfl
  · rw [if_neg h]
theorem z171 {k : Kitchen} {g : Nat} : ∀ (o : List Nat) (l : List Int) (m : Int), (∀ x ∈ o, x < l.length) → 0 ≤ m → (∀ j ∈ o, (batAt k j).good = (g : Int) → getI l (j : Int) = 0) → o.foldl (takeStep k g) (l, m) = (l, m)
  | [], _, _, _, _, _ => rfl
  | i :: o, l, m, hx, hm, h => by
    have e : takeStep k g (l, m) i = (l, m) := by
      unfold takeStep
      split
      · rename_i hg
        have h0 := h i (by simp) hg
        have e1 : min m (getI l (i : Int)) = 0 := by omega
        dsimp only
        rw [e1, Int.sub_zero, Int.sub_zero, z741 (hx i (by simp))]
      · rfl
    rw [List.foldl_cons, e]
    exact z171 o l m (fun x hx' => hx x (by simp [hx'])) hm fun j hj => h j (by simp [hj])
theorem z756 {k : Kitchen} {g : Nat} {l : List Int} {m : Int} {i : Nat} (hl : l.length = k.batches.length) (ha : AmtOk l) (hm : 0 ≤ m) (ho : oldTo k l g k.batches.length = (i : Int)) :
    (ordK k).foldl (takeStep k g) (l.set i (getI l (i : Int) - min m (getI l (i : Int))), m - min m (getI l (i : Int))) = (ordK k).foldl (takeStep k g) (l, m) := by
  obtain ⟨o1, o2⟩ := z200 k
  rcases z93 k l g k.batches.length with ⟨h1, _⟩ | ⟨i', h1, h2, h3, h4, h5⟩
  · omega
  · have e : i' = i := by omega
    subst e
    obtain ⟨A, B, hAB⟩ := List.append_of_mem (o1.mem_iff.2 (List.mem_range.2 h2))
    have hnd : (ordK k).Nodup := o1.nodup_iff.2 List.nodup_range
    have hlt : ∀ x ∈ ordK k, x < l.length := fun x hx => by rw [hl]; exact z46 hx
    rw [hAB] at hnd o2 hlt ⊢
    rw [List.pairwise_append] at o2
    rw [List.nodup_append] at hnd
    have hiA : ∀ j ∈ A, j ≠ i' := fun j hj e => hnd.2.2 j hj i' (by simp) e
    have hA : ∀ j ∈ A, (batAt k j).good = (g : Int) → getI l (j : Int) = 0 := fun j hj hgj => by
      have hn := (ha.get (j : Int)).1
      by_cases hp : getI l (j : Int) > 0
      · have q1 := h5 j (by rw [← hl]; exact hlt j (by simp [hj])) hgj hp (hiA j hj)
        have q2 := o2.2.2 j hj i' (by simp)
        simp only [Ahead] at q1 q2
        omega
      · omega
    obtain ⟨t, ht⟩ : ∃ t, t = min m (getI l (i' : Int)) := ⟨_, rfl⟩
    have hti := (ha.get (i' : Int)).1
    rw [← ht]
    have hil : i' < l.length := hlt i' (by simp)
    rw [List.foldl_append, List.foldl_append, z171 A l m (fun x hx => hlt x (by simp [hx])) hm hA,
      z171 A _ (m - t) (fun x hx => by rw [List.length_set]; exact hlt x (by simp [hx])) (by omega) (fun j hj hgj => by rw [z83 hil, if_neg (hiA j hj)]; exact hA j hj hgj), List.foldl_cons, List.foldl_cons]
    have e1 : takeStep k g (l, m) i' = (l.set i' (getI l (i' : Int) - t), m - t) := by rw [takeStep, if_pos h3, ht]
    have e2 : takeStep k g (l.set i' (getI l (i' : Int) - t), m - t) i' = (l.set i' (getI l (i' : Int) - t), m - t) := by
      rw [takeStep, if_pos h3]
      dsimp only
      rw [z83 hil, if_pos rfl]
      have e3 : min (m - t) (getI l (i' : Int) - t) = 0 := by omega
      rw [e3, Int.sub_zero, Int.sub_zero, List.set_set]
    rw [e1, e2]
theorem z1056 (k : Kitchen) (hb : k.batches.length ≤ 16) (l : List Int) (g : Nat) (hl : l.length = k.batches.length) : Fn Try.prog 101 [.agg k.cells, .sl (intRows l), .i (g : Int)] (.i (oldTo k l g k.batches.length)) := by
  have hr := z93 k l g
  obtain ⟨O, hO⟩ : ∃ O : Nat → Int, O = oldTo k l g := ⟨_, rfl⟩
  have hO0 : O 0 = -1 := by rw [hO]; rfl
  have hOs : ∀ i, O (i + 1) = if (batAt k i).good = (g : Int) ∧ getI l (i : Int) > 0 ∧ (O i < 0 ∨ (batAt k i).last < (batAt k (O i).toNat).last) then (i : Int) else O i := fun i => by rw [hO]; rfl
  rw [← hO] at hr ⊢
  refine z18 51 Try.call101 Try.func101 rfl (by decide) fun J => ?_
  simp (maxSteps := 4000000) only [go_sem, St.start, Try.ntmps101, Try.results101, Kitchen.cells]
  repeat (first | refine nx ?_ | (refine z10 fun K hK => ?_; simp (maxSteps := 4000000) only [go_sem]; refine hK _ ?_; clear hK K))
  refine z15 (fun (i : Nat) => [(8, .d (.i (i : Int))), (7, .d (.i (O i)))]) (fun _ => []) (fun i => i ≤ k.batches.length) (fun i => k.batches.length - i) 0 ?_ (Nat.zero_le _) ?_
  · rw [hO0]
    simp (maxSteps := 4000000) only [go_sem]
    refine z13 [] ?_ ?_ rfl rfl <;> simp [lessT, lessM, lessB, AV.less]
    all_goals first | done | rfl | trace_state
  · intro i hi
    simp (maxSteps := 4000000) only [go_sem]
    repeat (first | refine nx ?_ | (refine z10 fun K hK => ?_; simp (maxSteps := 4000000) only [go_sem, z19, hl]; refine hK _ ?_; clear hK K))
    refine z14 rfl (fun hb2 => ?_) (fun hb2 => ?_)
    · have hlt : i < k.batches.length := by simpa using hb2
      have hw : IntKind.i64.wrap ((i : Int) + 1) = ((i + 1 : Nat) : Int) := by rw [z16 (by omega)]; simp
      have gb := z155 hlt
      rw [Batch.row] at gb
      have gl := z21 (l := l) (i := i) (by omega)
      have hni : ¬ ((i : Int) < 0) := by omega
      have hs := hOs i
      by_cases q1 : (batAt k i).good = (g : Int)
      · have e1 : ((batAt k i).good == (g : Int)) = true := by simpa using q1
        by_cases q2 : getI l (i : Int) > 0
        · have e2 : decide (getI l (i : Int) > 0) = true := decide_eq_true q2
          rcases hr i with ⟨p1, _⟩ | ⟨j, p1, p2, _⟩
          · rw [if_pos ⟨q1, q2, .inl (by omega)⟩] at hs
            have e3 : decide (O i < 0) = true := decide_eq_true (by omega)
            repeat (first | refine nx ?_ | (refine z10 fun K hK => ?_; simp (maxSteps := 4000000) only [go_sem]; refine hK _ ?_; clear hK K))
            refine z17 (by kernel_rfl) (by kernel_rfl) fun K hK => ?_
            simp (maxSteps := 4000000) only [go_sem, gb, gl, hni, e1, e2, e3]
            refine ⟨by kernel_rfl, hK _ ?_⟩
            clear hK K
            repeat (first | refine z12 rfl ?_ | refine z11 rfl ?_ | refine nx ?_ | (refine z10 fun K hK => ?_; simp (maxSteps := 4000000) only [go_sem, hw]; refine hK _ ?_; clear hK K))
            refine ⟨rfl, i + 1, ?_, hlt, by omega⟩
            rw [hs]
            refine z13 [] ?_ ?_ rfl rfl <;> simp [lessT, lessM, lessB, AV.less]
            all_goals first | done | rfl | trace_state
          · have e3 : decide ((j : Int) < 0) = false := decide_eq_false (by omega)
            have gj := z155 (k := k) (i := j) (by omega)
            rw [Batch.row] at gj
            have hnj : ¬ ((j : Int) < 0) := by omega
            rw [p1] at hs ⊢
            rw [Int.toNat_natCast] at hs
            by_cases q3 : (batAt k i).last < (batAt k j).last
            · have e4 : decide ((batAt k i).last < (batAt k j).last) = true := decide_eq_true q3
              rw [if_pos ⟨q1, q2, .inr q3⟩] at hs
              repeat (first | refine nx ?_ | (refine z10 fun K hK => ?_; simp (maxSteps := 4000000) only [go_sem]; refine hK _ ?_; clear hK K))
              refine z17 (by kernel_rfl) (by kernel_rfl) fun K hK => ?_
              simp (maxSteps := 4000000) only [go_sem, gb, gl, hni, e1, e2, e3, gj, hnj, e4]
              refine ⟨by kernel_rfl, hK _ ?_⟩
              clear hK K
              repeat (first | refine z12 rfl ?_ | refine z11 rfl ?_ | refine nx ?_ | (refine z10 fun K hK => ?_; simp (maxSteps := 4000000) only [go_sem, hw]; refine hK _ ?_; clear hK K))
              refine ⟨rfl, i + 1, ?_, hlt, by omega⟩
              rw [hs]
              refine z13 [] ?_ ?_ rfl rfl <;> simp [lessT, lessM, lessB, AV.less]
              all_goals first | done | rfl | trace_state
            · have e4 : decide ((batAt k i).last < (batAt k j).last) = false := decide_eq_false q3
              rw [if_neg (fun c => by rcases c.2.2 with c | c <;> omega)] at hs
              repeat (first | refine nx ?_ | (refine z10 fun K hK => ?_; simp (maxSteps := 4000000) only [go_sem]; refine hK _ ?_; clear hK K))
              refine z17 (by kernel_rfl) (by kernel_rfl) fun K hK => ?_
              simp (maxSteps := 4000000) only [go_sem, gb, gl, hni, e1, e2, e3, gj, hnj, e4]
              refine ⟨by kernel_rfl, hK _ ?_⟩
              clear hK K
              repeat (first | refine z12 rfl ?_ | refine z11 rfl ?_ | refine nx ?_ | (refine z10 fun K hK => ?_; simp (maxSteps := 4000000) only [go_sem, hw]; refine hK _ ?_; clear hK K))
              refine ⟨rfl, i + 1, ?_, hlt, by omega⟩
              rw [hs]
              refine z13 [] ?_ ?_ rfl rfl <;> simp [lessT, lessM, lessB, AV.less]
              all_goals first | done | rfl | trace_state
        · have e2 : decide (getI l (i : Int) > 0) = false := decide_eq_false q2
          rw [if_neg (fun c => q2 c.2.1)] at hs
          repeat (first | refine nx ?_ | (refine z10 fun K hK => ?_; simp (maxSteps := 4000000) only [go_sem]; refine hK _ ?_; clear hK K))
          refine z17 (by kernel_rfl) (by kernel_rfl) fun K hK => ?_
          simp (maxSteps := 4000000) only [go_sem, gb, gl, hni, e1, e2]
          refine ⟨by kernel_rfl, hK _ ?_⟩
          clear hK K
          repeat (first | refine z12 rfl ?_ | refine z11 rfl ?_ | refine nx ?_ | (refine z10 fun K hK => ?_; simp (maxSteps := 4000000) only [go_sem, hw]; refine hK _ ?_; clear hK K))
          refine ⟨rfl, i + 1, ?_, hlt, by omega⟩
          rw [hs]
          refine z13 [] ?_ ?_ rfl rfl <;> simp [lessT, lessM, lessB, AV.less]
          all_goals first | done | rfl | trace_state
      · have e1 : ((batAt k i).good == (g : Int)) = false := by simpa using q1
        rw [if_neg (fun c => q1 c.1)] at hs
        repeat (first | refine nx ?_ | (refine z10 fun K hK => ?_; simp (maxSteps := 4000000) only [go_sem]; refine hK _ ?_; clear hK K))
        refine z17 (by kernel_rfl) (by kernel_rfl) fun K hK => ?_
        simp (maxSteps := 4000000) only [go_sem, gb, gl, hni, e1]
        refine ⟨by kernel_rfl, hK _ ?_⟩
        clear hK K
        repeat (first | refine z12 rfl ?_ | refine z11 rfl ?_ | refine nx ?_ | (refine z10 fun K hK => ?_; simp (maxSteps := 4000000) only [go_sem, hw]; refine hK _ ?_; clear hK K))
        refine ⟨rfl, i + 1, ?_, hlt, by omega⟩
        rw [hs]
        refine z13 [] ?_ ?_ rfl rfl <;> simp [lessT, lessM, lessB, AV.less]
        all_goals first | done | rfl | trace_state
    · have he : i = k.batches.length := by (have : ¬ i < k.batches.length := by simpa using hb2); omega
      subst he
      repeat (first | refine nx ?_ | (refine z10 fun K hK => ?_; simp (maxSteps := 4000000) only [go_sem]; refine hK _ ?_; clear hK K))
      simp (maxSteps := 4000000) only [go_sem]
end Go.Ab

namespace Go.Ab
open Go.RowKit Go.Proofs
set_option maxHeartbeats 16000000
set_option maxRecDepth 20000
attribute [local irreducible] WalkL Walk
theorem z340 {k : Kitchen} {g : Nat} : ∀ (o : List Nat) (l : List Int), (∀ x ∈ o, x < l.length) → AmtOk l → o.foldl (takeStep k g) (l, 0) = (l, 0)
  | [], _, _, _ => rfl
  | i :: o, l, hx, ha => by
    have e : takeStep k g (l, 0) i = (l, 0) := by
      unfold takeStep
      split
      · have := (ha.get (i : Int)).1
        have e1 : min 0 (getI l (i : Int)) = 0 := by omega
        dsimp only
        rw [e1, Int.sub_zero, Int.sub_zero, z741 (hx i (by simp))]
      · rfl
    rw [List.foldl_cons, e]
    exact z340 o l (fun x hx' => hx x (by simp [hx'])) ha
def ServeC (k : Kitchen) (l ds cs : List Int) : Option (List Int) → Prop
  | some c => FnG Try.prog 85 [] [] (List.map AV.d [.agg k.cells, .sl (intRows l), .sl (intRows ds), .sl (intRows cs)]) (.tup [.own 0, .d (.bool true)]) [.arr 3 1 (intRows c)]
  | none => Fn Try.prog 85 [.agg k.cells, .sl (intRows l), .sl (intRows ds), .sl (intRows cs)] (.tup [.sl (intRows l), .bool false])
theorem z1124 (k : Kitchen) (hg : KitWide k) (l ds cs : List Int) (hl : l.length = k.batches.length) (ha : AmtOk l) (hd : DayOk k ds fun (g : Nat) => getI cs (g : Int)) (hcl : cs.length = ds.length) :
    ServeC k l ds cs (takeTo k (ordK k) (needL k ds fun (g : Nat) => getI cs (g : Int)) l k.allerg.length) := by
  have hbl := hg.batches
  have hgo := hg.goods
  have e1 : l.length ≤ 549755813888 := by omega
  have hnat : ∀ g : Nat, g < k.allerg.length → getI (needL k ds fun (g : Nat) => getI cs (g : Int)) (g : Int) = needG k ds (fun (g : Nat) => getI cs (g : Int)) g ds.length := fun g hgl => by
    rw [z114, needL, List.getD_eq_getElem?_getD, List.getElem?_map, List.getElem?_range hgl]
    rfl
  have hnok := z56 hg hd
  obtain ⟨nd, hnd⟩ : ∃ nd, nd = needL k ds fun (g : Nat) => getI cs (g : Int) := ⟨_, rfl⟩
  rw [← hnd] at hnok hnat ⊢
  have hn0 : ∀ x ∈ nd, 0 ≤ x := fun x hx => (hnok x hx).1
  have hto := fun g c hc => z99 (k := k) (o := ordK k) ha hn0 g c hc
  have hnrg : ∀ g : Nat, g < k.allerg.length → 0 ≤ getI nd (g : Int) ∧ getI nd (g : Int) ≤ 1099511627776 := fun g _ => z80 hnok (by decide) _
  cases hres : takeTo k (ordK k) nd l k.allerg.length with
  | some c =>
    unfold ServeC
    refine z64 56 Try.call85 Try.func85 rfl (by decide) [15] [] (by simp only [List.length_cons, List.length_nil]; decide) (by kernel_rfl) fun J => ?_
    simp (maxSteps := 4000000) only [go_sem, St.startG, Try.ntmps85, Try.results85, List.map_cons, List.map_nil, List.range_succ,  Kitchen.cells]
    repeat (first | refine nx ?_ | (refine z10 fun K hK => ?_; simp (maxSteps := 4000000) only [go_sem, e1, List.nil_append, List.length_nil, Nat.zero_add]; refine hK _ ?_; clear hK K))
    refine z15 (fun (q : Nat × List Int) => [(11, .d (.i (q.1 : Int)))]) (fun q => [(15, some (.arr 3 1 (intRows q.2)))]) (fun q => q.1 ≤ k.allerg.length ∧ takeTo k (ordK k) nd l q.1 = some q.2) (fun q => k.allerg.length - q.1) (0, l) ?_ ⟨Nat.zero_le _, rfl⟩ ?_
    · simp (maxSteps := 4000000) only [go_sem]
      refine z13 [] ?_ ?_ rfl rfl <;> simp [lessT, lessM, lessB, AV.less]
      all_goals first | done | rfl | trace_state
    · rintro ⟨g, cur⟩ ⟨hgl, hcur⟩
      dsimp only at hgl hcur
      obtain ⟨a1, a2⟩ := hto g cur hcur
      simp (maxSteps := 4000000) only [go_sem]
      repeat (first | refine nx ?_ | (refine z10 fun K hK => ?_; simp (maxSteps := 4000000) only [go_sem, z19]; refine hK _ ?_; clear hK K))
      refine z14 rfl (fun hb => ?_) (fun hb => ?_)
      · have hlt : g < k.allerg.length := by simpa using hb
        have hw : IntKind.i64.wrap ((g : Int) + 1) = ((g + 1 : Nat) : Int) := by rw [z16 (by omega)]; simp
        have h26 := z1106 k hg ds cs g hlt hd hcl
        rw [← hnat g hlt] at h26
        have hnr := hnrg g hlt
        obtain ⟨N, hN⟩ : ∃ N, N = getI nd (g : Int) := ⟨_, rfl⟩
        have hnx : takeTo k (ordK k) nd l (g + 1) = if ((ordK k).foldl (takeStep k g) (cur, N)).2 > 0 then none else some ((ordK k).foldl (takeStep k g) (cur, N)).1 := by rw [takeTo, hcur, hN]; rfl
        rw [← hN] at h26 hnr
        rw [Kitchen.cells] at h26
        repeat (first | refine nx ?_ | (refine z10 fun K hK => ?_; simp (maxSteps := 4000000) only [go_sem]; (repeat (first | (refine ⟨_, .lent (hf := h26) (hd := rfl) (hr := rfl), ?_⟩; simp (maxSteps := 4000000) only [go_sem]) | (refine ⟨_, .given (hf := h26) (hd := rfl) (ha := rfl), ?_⟩; simp (maxSteps := 4000000) only [go_sem]))); refine hK _ ?_; clear hK K))
        refine z15 (fun (q : List Int × Int) => [(12, .d (.i q.2))]) (fun q => [(15, some (.arr 3 1 (intRows q.1)))]) (fun q => (ordK k).foldl (takeStep k g) q = (ordK k).foldl (takeStep k g) (cur, N) ∧ AmtOk q.1 ∧ q.1.length = k.batches.length ∧ 0 ≤ q.2 ∧ q.2 ≤ 1099511627776) (fun q => q.2.toNat) (cur, N) ?_ ⟨rfl, a1, a2.trans hl, hnr.1, hnr.2⟩ ?_
        · simp (maxSteps := 4000000) only [go_sem]
          refine z13 [] ?_ ?_ rfl rfl <;> simp [lessT, lessM, lessB, AV.less]
          all_goals first | done | rfl | trace_state
        · rintro ⟨A, m⟩ ⟨hf, hA, hAl, hm0, hm1⟩
          dsimp only at hf hA hAl hm0 hm1
          simp (maxSteps := 4000000) only [go_sem]
          repeat (first | refine nx ?_ | (refine z10 fun K hK => ?_; simp (maxSteps := 4000000) only [go_sem]; refine hK _ ?_; clear hK K))
          refine z14 rfl (fun hb2 => ?_) (fun hb2 => ?_)
          · have hmp : m > 0 := by simpa using hb2
            have h101 := z1056 k hg.batches A g hAl
            rw [Kitchen.cells] at h101
            rcases z93 k A g k.batches.length with ⟨p1, p2⟩ | ⟨i, p1, p2, p3, p4, _⟩
            · rw [p1] at h101
              have hidle := z171 (k := k) (g := g) (ordK k) A m (fun x hx => by rw [hAl]; exact z46 hx) hm0 (fun j hj hgj => by
                have := p2 j (z46 hj) hgj
                have := (hA.get (j : Int)).1
                omega)
              rw [hidle] at hf
              rw [← hf, if_pos hmp] at hnx
              have hnone : takeTo k (ordK k) nd l k.allerg.length = none := z138 hnx (by omega)
              rw [hres] at hnone; cases hnone
            · rw [p1] at h101
              have hold := z756 hAl hA hm0 p1
              have hli := hA.get (i : Int)
              have hiA : i < A.length := by omega
              have gA := z21 hiA
              have hni : ¬ ((i : Int) < 0) := by omega
              have d1 : decide ((i : Int) < 0) = false := decide_eq_false (by omega)
              have w1 : IntKind.i64.wrap (getI A (i : Int) - min m (getI A (i : Int))) = getI A (i : Int) - min m (getI A (i : Int)) := z16 (by omega)
              have w2 : IntKind.i64.wrap (m - min m (getI A (i : Int))) = m - min m (getI A (i : Int)) := z16 (by omega)
              have su : (intRows A).set i [.i (getI A (i : Int) - min m (getI A (i : Int)))] = intRows (A.set i (getI A (i : Int) - min m (getI A (i : Int)))) := z43 A i _
              repeat (first | refine z12 rfl ?_ | refine z11 rfl ?_ | refine nx ?_ | (refine z10 fun K hK => ?_; simp (maxSteps := 4000000) only [go_sem, d1, hni, hiA, gA, w1, w2, su]; (repeat (first | (refine ⟨_, .lent (hf := h101) (hd := rfl) (hr := rfl), ?_⟩; simp (maxSteps := 4000000) only [go_sem, d1, hni, hiA, gA, w1, w2, su]) | (refine ⟨_, .given (hf := h101) (hd := rfl) (ha := rfl), ?_⟩; simp (maxSteps := 4000000) only [go_sem, d1, hni, hiA, gA, w1, w2, su]))); refine hK _ ?_; clear hK K))
              refine ⟨rfl, (A.set i (getI A (i : Int) - min m (getI A (i : Int))), m - min m (getI A (i : Int))), ?_, ⟨hold.trans hf, hA.set i (by omega), by rw [List.length_set, hAl], by dsimp only; omega, by dsimp only; omega⟩, by dsimp only; omega⟩
              refine z13 [] ?_ ?_ rfl rfl <;> simp [lessT, lessM, lessB, AV.less]
              all_goals first | done | rfl | trace_state
          · have hmz : m = 0 := by have : ¬ m > 0 := by simpa using hb2
                                   omega
            subst hmz
            have hz := z340 (k := k) (g := g) (ordK k) A (fun x hx => by rw [hAl]; exact z46 hx) hA
            rw [hz] at hf
            rw [← hf, if_neg (show ¬ (0 : Int) > 0 by decide)] at hnx
            repeat (first | refine nx ?_ | (refine z10 fun K hK => ?_; simp (maxSteps := 4000000) only [go_sem, hw]; refine hK _ ?_; clear hK K))
            refine ⟨rfl, (g + 1, A), ?_, ⟨hlt, hnx⟩, by dsimp only; omega⟩
            refine z13 [] ?_ ?_ rfl rfl <;> simp [lessT, lessM, lessB, AV.less]
            all_goals first | done | rfl | trace_state
      · have he : g = k.allerg.length := by (have : ¬ g < k.allerg.length := by simpa using hb); omega
        subst he
        rw [hres] at hcur; cases hcur
        repeat (first | refine nx ?_ | (refine z10 fun K hK => ?_; simp (maxSteps := 4000000) only [go_sem]; refine hK _ ?_; clear hK K))
        simp (maxSteps := 4000000) only [go_sem, retG]
  | none =>
    unfold ServeC
    refine z18 56 Try.call85 Try.func85 rfl (by decide) fun J => ?_
    simp (maxSteps := 4000000) only [go_sem, St.start, Try.ntmps85, Try.results85, Kitchen.cells]
    repeat (first | refine nx ?_ | (refine z10 fun K hK => ?_; simp (maxSteps := 4000000) only [go_sem, e1, List.nil_append, List.length_nil, Nat.zero_add]; refine hK _ ?_; clear hK K))
    refine z15 (fun (q : Nat × List Int) => [(11, .d (.i (q.1 : Int)))]) (fun q => [(15, some (.arr 3 1 (intRows q.2)))]) (fun q => q.1 ≤ k.allerg.length ∧ takeTo k (ordK k) nd l q.1 = some q.2) (fun q => k.allerg.length - q.1) (0, l) ?_ ⟨Nat.zero_le _, rfl⟩ ?_
    · simp (maxSteps := 4000000) only [go_sem]
      refine z13 [] ?_ ?_ rfl rfl <;> simp [lessT, lessM, lessB, AV.less]
      all_goals first | done | rfl | trace_state
    · rintro ⟨g, cur⟩ ⟨hgl, hcur⟩
      dsimp only at hgl hcur
      obtain ⟨a1, a2⟩ := hto g cur hcur
      simp (maxSteps := 4000000) only [go_sem]
      repeat (first | refine nx ?_ | (refine z10 fun K hK => ?_; simp (maxSteps := 4000000) only [go_sem, z19]; refine hK _ ?_; clear hK K))
      refine z14 rfl (fun hb => ?_) (fun hb => ?_)
      · have hlt : g < k.allerg.length := by simpa using hb
        have hw : IntKind.i64.wrap ((g : Int) + 1) = ((g + 1 : Nat) : Int) := by rw [z16 (by omega)]; simp
        have h26 := z1106 k hg ds cs g hlt hd hcl
        rw [← hnat g hlt] at h26
        have hnr := hnrg g hlt
        obtain ⟨N, hN⟩ : ∃ N, N = getI nd (g : Int) := ⟨_, rfl⟩
        have hnx : takeTo k (ordK k) nd l (g + 1) = if ((ordK k).foldl (takeStep k g) (cur, N)).2 > 0 then none else some ((ordK k).foldl (takeStep k g) (cur, N)).1 := by rw [takeTo, hcur, hN]; rfl
        rw [← hN] at h26 hnr
        rw [Kitchen.cells] at h26
        repeat (first | refine nx ?_ | (refine z10 fun K hK => ?_; simp (maxSteps := 4000000) only [go_sem]; (repeat (first | (refine ⟨_, .lent (hf := h26) (hd := rfl) (hr := rfl), ?_⟩; simp (maxSteps := 4000000) only [go_sem]) | (refine ⟨_, .given (hf := h26) (hd := rfl) (ha := rfl), ?_⟩; simp (maxSteps := 4000000) only [go_sem]))); refine hK _ ?_; clear hK K))
        refine z15 (fun (q : List Int × Int) => [(12, .d (.i q.2))]) (fun q => [(15, some (.arr 3 1 (intRows q.1)))]) (fun q => (ordK k).foldl (takeStep k g) q = (ordK k).foldl (takeStep k g) (cur, N) ∧ AmtOk q.1 ∧ q.1.length = k.batches.length ∧ 0 ≤ q.2 ∧ q.2 ≤ 1099511627776) (fun q => q.2.toNat) (cur, N) ?_ ⟨rfl, a1, a2.trans hl, hnr.1, hnr.2⟩ ?_
        · simp (maxSteps := 4000000) only [go_sem]
          refine z13 [] ?_ ?_ rfl rfl <;> simp [lessT, lessM, lessB, AV.less]
          all_goals first | done | rfl | trace_state
        · rintro ⟨A, m⟩ ⟨hf, hA, hAl, hm0, hm1⟩
          dsimp only at hf hA hAl hm0 hm1
          simp (maxSteps := 4000000) only [go_sem]
          repeat (first | refine nx ?_ | (refine z10 fun K hK => ?_; simp (maxSteps := 4000000) only [go_sem]; refine hK _ ?_; clear hK K))
          refine z14 rfl (fun hb2 => ?_) (fun hb2 => ?_)
          · have hmp : m > 0 := by simpa using hb2
            have h101 := z1056 k hg.batches A g hAl
            rw [Kitchen.cells] at h101
            rcases z93 k A g k.batches.length with ⟨p1, p2⟩ | ⟨i, p1, p2, p3, p4, _⟩
            · rw [p1] at h101
              have hidle := z171 (k := k) (g := g) (ordK k) A m (fun x hx => by rw [hAl]; exact z46 hx) hm0 (fun j hj hgj => by
                have := p2 j (z46 hj) hgj
                have := (hA.get (j : Int)).1
                omega)
              rw [hidle] at hf
              rw [← hf, if_pos hmp] at hnx
              have hnone : takeTo k (ordK k) nd l k.allerg.length = none := z138 hnx (by omega)
              repeat (first | refine z12 rfl ?_ | refine z11 rfl ?_ | refine nx ?_ | (refine z10 fun K hK => ?_; simp (maxSteps := 4000000) only [go_sem]; (repeat (first | (refine ⟨_, .lent (hf := h101) (hd := rfl) (hr := rfl), ?_⟩; simp (maxSteps := 4000000) only [go_sem]) | (refine ⟨_, .given (hf := h101) (hd := rfl) (ha := rfl), ?_⟩; simp (maxSteps := 4000000) only [go_sem]))); refine hK _ ?_; clear hK K))
              simp (maxSteps := 4000000) only [go_sem]
            · rw [p1] at h101
              have hold := z756 hAl hA hm0 p1
              have hli := hA.get (i : Int)
              have hiA : i < A.length := by omega
              have gA := z21 hiA
              have hni : ¬ ((i : Int) < 0) := by omega
              have d1 : decide ((i : Int) < 0) = false := decide_eq_false (by omega)
              have w1 : IntKind.i64.wrap (getI A (i : Int) - min m (getI A (i : Int))) = getI A (i : Int) - min m (getI A (i : Int)) := z16 (by omega)
              have w2 : IntKind.i64.wrap (m - min m (getI A (i : Int))) = m - min m (getI A (i : Int)) := z16 (by omega)
              have su : (intRows A).set i [.i (getI A (i : Int) - min m (getI A (i : Int)))] = intRows (A.set i (getI A (i : Int) - min m (getI A (i : Int)))) := z43 A i _
              repeat (first | refine z12 rfl ?_ | refine z11 rfl ?_ | refine nx ?_ | (refine z10 fun K hK => ?_; simp (maxSteps := 4000000) only [go_sem, d1, hni, hiA, gA, w1, w2, su]; (repeat (first | (refine ⟨_, .lent (hf := h101) (hd := rfl) (hr := rfl), ?_⟩; simp (maxSteps := 4000000) only [go_sem, d1, hni, hiA, gA, w1, w2, su]) | (refine ⟨_, .given (hf := h101) (hd := rfl) (ha := rfl), ?_⟩; simp (maxSteps := 4000000) only [go_sem, d1, hni, hiA, gA, w1, w2, su]))); refine hK _ ?_; clear hK K))
              refine ⟨rfl, (A.set i (getI A (i : Int) - min m (getI A (i : Int))), m - min m (getI A (i : Int))), ?_, ⟨hold.trans hf, hA.set i (by omega), by rw [List.length_set, hAl], by dsimp only; omega, by dsimp only; omega⟩, by dsimp only; omega⟩
              refine z13 [] ?_ ?_ rfl rfl <;> simp [lessT, lessM, lessB, AV.less]
              all_goals first | done | rfl | trace_state
          · have hmz : m = 0 := by have : ¬ m > 0 := by simpa using hb2
                                   omega
            subst hmz
            have hz := z340 (k := k) (g := g) (ordK k) A (fun x hx => by rw [hAl]; exact z46 hx) hA
            rw [hz] at hf
            rw [← hf, if_neg (show ¬ (0 : Int) > 0 by decide)] at hnx
            repeat (first | refine nx ?_ | (refine z10 fun K hK => ?_; simp (maxSteps := 4000000) only [go_sem, hw]; refine hK _ ?_; clear hK K))
            refine ⟨rfl, (g + 1, A), ?_, ⟨hlt, hnx⟩, by dsimp only; omega⟩
            refine z13 [] ?_ ?_ rfl rfl <;> simp [lessT, lessM, lessB, AV.less]
            all_goals first | done | rfl | trace_state
      · have he : g = k.allerg.length := by (have : ¬ g < k.allerg.length := by simpa using hb); omega
        subst he
        rw [hres] at hcur; cases hcur
end Go.Ab
namespace Go.Ab
open Go.RowKit Go.Proofs
set_option maxHeartbeats 16000000
set_option maxRecDepth 20000
attribute [local irreducible] WalkL Walk
def endRow (b : Bool) (d : List Diners) : List Int := d.map fun g => if b = true then g.count.hi else g.count.lo
def endsTo (k : Kitchen) (b : Bool) (i : Nat) : List (List Int) := (k.days.take i).map (endRow b)
def endsL (k : Kitchen) (b : Bool) : List (List Int) := k.days.map (endRow b)
theorem z1143 (k : Kitchen) (hg : KitWide k) (b : Bool) : Fn Try.prog 59 [.agg k.cells, .bool b] (.sl (listRows (endsL k b))) := by
  have hdy := hg.days
  cases b with
  | false =>
    have hpick : ∀ g : Diners, (if (false : Bool) = true then g.count.hi else g.count.lo) = g.count.lo := fun g => rfl
    refine z18 58 Try.call59 Try.func59 rfl (by decide) fun J => ?_
    simp (maxSteps := 4000000) only [go_sem, St.start, Try.ntmps59, Try.results59, Kitchen.cells]
    repeat (first | refine nx ?_ | (refine z10 fun K hK => ?_; simp (maxSteps := 4000000) only [go_sem]; refine hK _ ?_; clear hK K))
    refine z15 (fun (i : Nat) => [(6, .d (.i (i : Int))), (5, .own 56)]) (fun i => [(56, some (.arr 22 1 (listRows (endsTo k false i))))]) (fun i => i ≤ k.days.length) (fun i => k.days.length - i) 0 ?_ (Nat.zero_le _) ?_
    · simp (maxSteps := 4000000) only [go_sem]
      refine z13 [56] ?_ ?_ rfl rfl <;> simp [lessT, lessM, lessB, AV.less, endsTo, listRows]
    · intro i hi
      simp (maxSteps := 4000000) only [go_sem]
      repeat (first | refine nx ?_ | (refine z10 fun K hK => ?_; simp (maxSteps := 4000000) only [go_sem]; refine hK _ ?_; clear hK K))
      refine z14 rfl (fun hb => ?_) (fun hb => ?_)
      · have hlt : i < k.days.length := by simpa using hb
        have hw : IntKind.i64.wrap ((i : Int) + 1) = ((i + 1 : Nat) : Int) := by rw [z16 (by omega)]; simp
        have gd := z191 hlt
        have hni : ¬ ((i : Int) < 0) := by omega
        obtain ⟨x, hx⟩ : ∃ x, k.days[i]? = some x := ⟨_, List.getElem?_eq_getElem hlt⟩
        have e : k.days.getD i [] = x := by rw [List.getD_eq_getElem?_getD, hx]; rfl
        have hx3 := (hg.groups x (List.mem_of_getElem? hx)).1
        rw [e] at gd
        have hnx : endsTo k false (i + 1) = endsTo k false i ++ [x.map fun g => g.count.lo] := by
          rw [endsTo, endsTo, List.take_add_one, hx]
          simp [endRow]
        obtain ⟨E, hE⟩ : ∃ E, E = endsTo k false i := ⟨_, rfl⟩
        have hEl : E.length + 1 ≤ 549755813888 := by
          rw [hE, endsTo]
          simp
          omega
        rw [← hE] at hnx ⊢
        have hap : listRows E ++ [[.sl (intRows (x.map fun g => g.count.lo))]] = listRows (endsTo k false (i + 1)) := by rw [hnx]; simp [listRows]
        repeat (first | refine nx ?_ | (refine z10 fun K hK => ?_; simp (maxSteps := 4000000) only [go_sem]; refine hK _ ?_; clear hK K))
        refine z15 (fun (j : Nat) => [(8, .d (.i (j : Int))), (7, .own 52)]) (fun j => [(52, some (.arr 3 1 (intRows ((x.take j).map fun g => g.count.lo))))]) (fun j => j ≤ x.length) (fun j => x.length - j) 0 ?_ (Nat.zero_le _) ?_
        · simp (maxSteps := 4000000) only [go_sem]
          refine z13 [52] ?_ ?_ rfl rfl <;> simp [lessT, lessM, lessB, AV.less, intRows]
        · intro j hj
          simp (maxSteps := 4000000) only [go_sem]
          repeat (first | refine nx ?_ | (refine z10 fun K hK => ?_; simp (maxSteps := 4000000) only [go_sem, gd, hni]; refine hK _ ?_; clear hK K))
          refine z14 rfl (fun hb => ?_) (fun hb => ?_)
          · have hltj : j < x.length := by simpa using hb
            have hwj : IntKind.i64.wrap ((j : Int) + 1) = ((j + 1 : Nat) : Int) := by rw [z16 (by omega)]; simp
            obtain ⟨y, hy⟩ : ∃ y, x[j]? = some y := ⟨_, List.getElem?_eq_getElem hltj⟩
            have gy := z68 hy
            rw [Diners.row] at gy
            have hnj : ¬ ((j : Int) < 0) := by omega
            have hs : intRows ((x.take j).map fun g => g.count.lo) ++ [[.i y.count.lo]] = intRows ((x.take (j + 1)).map fun g => g.count.lo) := by rw [List.take_add_one, hy]; simp [intRows]
            have hsl : ((x.take j).map fun g => g.count.lo).length + 1 ≤ 549755813888 := by simp; omega
            obtain ⟨R, hR⟩ : ∃ R, R = (x.take j).map fun g => g.count.lo := ⟨_, rfl⟩
            rw [← hR] at hs hsl ⊢
            repeat (first | refine z12 rfl ?_ | refine z11 rfl ?_ | refine nx ?_ | (refine z10 fun K hK => ?_; simp (maxSteps := 4000000) only [go_sem, gd, hni, gy, hnj, hs, hsl, hwj]; refine hK _ ?_; clear hK K))
            refine ⟨rfl, j + 1, ?_, hltj, by omega⟩
            refine z13 [] ?_ ?_ rfl rfl <;> simp [lessT, lessM, lessB, AV.less]
            all_goals first | done | rfl | trace_state
          · have he : j = x.length := by (have : ¬ j < x.length := by simpa using hb); omega
            subst he
            rw [List.take_length]
            repeat refine nx ?_
            refine z23 [52] ?_
            simp (maxSteps := 4000000) only [go_sem]
            repeat (first | refine nx ?_ | (refine z10 fun K hK => ?_; simp (maxSteps := 4000000) only [go_sem, hEl, z20, hap, hw]; refine hK _ ?_; clear hK K))
            refine ⟨rfl, i + 1, ?_, hlt, by omega⟩
            refine z13 [] ?_ ?_ rfl rfl <;> simp [lessT, lessM, lessB, AV.less]
            all_goals first | done | rfl | trace_state
      · have he : i = k.days.length := by (have : ¬ i < k.days.length := by simpa using hb); omega
        subst he
        have ha : endsTo k false k.days.length = endsL k false := by rw [endsTo, List.take_length]; rfl
        rw [ha]
        repeat (first | refine nx ?_ | (refine z10 fun K hK => ?_; simp (maxSteps := 4000000) only [go_sem]; refine hK _ ?_; clear hK K))
        simp (maxSteps := 4000000) only [go_sem]
  | true =>
    have hpick : ∀ g : Diners, (if (true : Bool) = true then g.count.hi else g.count.lo) = g.count.hi := fun g => rfl
    refine z18 58 Try.call59 Try.func59 rfl (by decide) fun J => ?_
    simp (maxSteps := 4000000) only [go_sem, St.start, Try.ntmps59, Try.results59, Kitchen.cells]
    repeat (first | refine nx ?_ | (refine z10 fun K hK => ?_; simp (maxSteps := 4000000) only [go_sem]; refine hK _ ?_; clear hK K))
    refine z15 (fun (i : Nat) => [(6, .d (.i (i : Int))), (5, .own 56)]) (fun i => [(56, some (.arr 22 1 (listRows (endsTo k true i))))]) (fun i => i ≤ k.days.length) (fun i => k.days.length - i) 0 ?_ (Nat.zero_le _) ?_
    · simp (maxSteps := 4000000) only [go_sem]
      refine z13 [56] ?_ ?_ rfl rfl <;> simp [lessT, lessM, lessB, AV.less, endsTo, listRows]
    · intro i hi
      simp (maxSteps := 4000000) only [go_sem]
      repeat (first | refine nx ?_ | (refine z10 fun K hK => ?_; simp (maxSteps := 4000000) only [go_sem]; refine hK _ ?_; clear hK K))
      refine z14 rfl (fun hb => ?_) (fun hb => ?_)
      · have hlt : i < k.days.length := by simpa using hb
        have hw : IntKind.i64.wrap ((i : Int) + 1) = ((i + 1 : Nat) : Int) := by rw [z16 (by omega)]; simp
        have gd := z191 hlt
        have hni : ¬ ((i : Int) < 0) := by omega
        obtain ⟨x, hx⟩ : ∃ x, k.days[i]? = some x := ⟨_, List.getElem?_eq_getElem hlt⟩
        have e : k.days.getD i [] = x := by rw [List.getD_eq_getElem?_getD, hx]; rfl
        have hx3 := (hg.groups x (List.mem_of_getElem? hx)).1
        rw [e] at gd
        have hnx : endsTo k true (i + 1) = endsTo k true i ++ [x.map fun g => g.count.hi] := by
          rw [endsTo, endsTo, List.take_add_one, hx]
          simp [endRow]
        obtain ⟨E, hE⟩ : ∃ E, E = endsTo k true i := ⟨_, rfl⟩
        have hEl : E.length + 1 ≤ 549755813888 := by
          rw [hE, endsTo]
          simp
          omega
        rw [← hE] at hnx ⊢
        have hap : listRows E ++ [[.sl (intRows (x.map fun g => g.count.hi))]] = listRows (endsTo k true (i + 1)) := by rw [hnx]; simp [listRows]
        repeat (first | refine nx ?_ | (refine z10 fun K hK => ?_; simp (maxSteps := 4000000) only [go_sem]; refine hK _ ?_; clear hK K))
        refine z15 (fun (j : Nat) => [(8, .d (.i (j : Int))), (7, .own 39)]) (fun j => [(39, some (.arr 3 1 (intRows ((x.take j).map fun g => g.count.hi))))]) (fun j => j ≤ x.length) (fun j => x.length - j) 0 ?_ (Nat.zero_le _) ?_
        · simp (maxSteps := 4000000) only [go_sem]
          refine z13 [39] ?_ ?_ rfl rfl <;> simp [lessT, lessM, lessB, AV.less, intRows]
        · intro j hj
          simp (maxSteps := 4000000) only [go_sem]
          repeat (first | refine nx ?_ | (refine z10 fun K hK => ?_; simp (maxSteps := 4000000) only [go_sem, gd, hni]; refine hK _ ?_; clear hK K))
          refine z14 rfl (fun hb => ?_) (fun hb => ?_)
          · have hltj : j < x.length := by simpa using hb
            have hwj : IntKind.i64.wrap ((j : Int) + 1) = ((j + 1 : Nat) : Int) := by rw [z16 (by omega)]; simp
            obtain ⟨y, hy⟩ : ∃ y, x[j]? = some y := ⟨_, List.getElem?_eq_getElem hltj⟩
            have gy := z68 hy
            rw [Diners.row] at gy
            have hnj : ¬ ((j : Int) < 0) := by omega
            have hs : intRows ((x.take j).map fun g => g.count.hi) ++ [[.i y.count.hi]] = intRows ((x.take (j + 1)).map fun g => g.count.hi) := by rw [List.take_add_one, hy]; simp [intRows]
            have hsl : ((x.take j).map fun g => g.count.hi).length + 1 ≤ 549755813888 := by simp; omega
            obtain ⟨R, hR⟩ : ∃ R, R = (x.take j).map fun g => g.count.hi := ⟨_, rfl⟩
            rw [← hR] at hs hsl ⊢
            repeat (first | refine z12 rfl ?_ | refine z11 rfl ?_ | refine nx ?_ | (refine z10 fun K hK => ?_; simp (maxSteps := 4000000) only [go_sem, gd, hni, gy, hnj, hs, hsl, hwj]; refine hK _ ?_; clear hK K))
            refine ⟨rfl, j + 1, ?_, hltj, by omega⟩
            refine z13 [] ?_ ?_ rfl rfl <;> simp [lessT, lessM, lessB, AV.less]
            all_goals first | done | rfl | trace_state
          · have he : j = x.length := by (have : ¬ j < x.length := by simpa using hb); omega
            subst he
            rw [List.take_length]
            repeat refine nx ?_
            refine z23 [39] ?_
            simp (maxSteps := 4000000) only [go_sem]
            repeat (first | refine nx ?_ | (refine z10 fun K hK => ?_; simp (maxSteps := 4000000) only [go_sem, hEl, z20, hap, hw]; refine hK _ ?_; clear hK K))
            refine ⟨rfl, i + 1, ?_, hlt, by omega⟩
            refine z13 [] ?_ ?_ rfl rfl <;> simp [lessT, lessM, lessB, AV.less]
            all_goals first | done | rfl | trace_state
      · have he : i = k.days.length := by (have : ¬ i < k.days.length := by simpa using hb); omega
        subst he
        have ha : endsTo k true k.days.length = endsL k true := by rw [endsTo, List.take_length]; rfl
        rw [ha]
        repeat (first | refine nx ?_ | (refine z10 fun K hK => ?_; simp (maxSteps := 4000000) only [go_sem]; refine hK _ ?_; clear hK K))
        simp (maxSteps := 4000000) only [go_sem]
end Go.Ab
namespace Go.Ab
open Go.RowKit Go.Proofs
set_option maxHeartbeats 16000000
set_option maxRecDepth 20000
attribute [local irreducible] WalkL Walk
theorem z1144 (k : Kitchen) (hg : KitWide k) (M C : List (List Int)) (hM : shapedB (menuB k) M k.days = true) (hC : shapedB countB C k.days = true) :
    Fn Try.prog 58 [.agg k.cells, .sl (listRows M), .sl (listRows C)] (.tup [.sl (intRows (endSt k M (cntOf C)).1), .i (endSt k M (cntOf C)).2, .i ((lastD k M (cntOf C) M.length : Nat) : Int)]) := by
  have hbl := hg.batches
  have hdy := hg.days
  have hMl := z27 hM
  have hCl := z27 hC
  have hc := z932 hg hC
  obtain ⟨cnt, hcnt⟩ : ∃ cnt, cnt = cntOf C := ⟨_, rfl⟩
  rw [← hcnt] at hc ⊢
  have ha0 : (amtK k).take 0 = [] := rfl
  refine z18 83 Try.call58 Try.func58 rfl (by decide) fun J => ?_
  simp (maxSteps := 4000000) only [go_sem, St.start, Try.ntmps58, Try.results58, Kitchen.cells]
  repeat (first | refine nx ?_ | (refine z10 fun K hK => ?_; simp (maxSteps := 4000000) only [go_sem]; refine hK _ ?_; clear hK K))
  refine z15 (fun (i : Nat) => [(9, .d (.i (i : Int))), (6, .own 29)]) (fun i => [(29, some (.arr 3 1 (intRows ((amtK k).take i))))]) (fun i => i ≤ k.batches.length) (fun i => k.batches.length - i) 0 ?_ (Nat.zero_le _) ?_
  · simp (maxSteps := 4000000) only [go_sem]
    refine z13 [29] ?_ ?_ rfl rfl <;> simp [lessT, lessM, lessB, AV.less, intRows]
  · intro i hi
    simp (maxSteps := 4000000) only [go_sem]
    repeat (first | refine nx ?_ | (refine z10 fun K hK => ?_; simp (maxSteps := 4000000) only [go_sem]; refine hK _ ?_; clear hK K))
    refine z14 rfl (fun hb2 => ?_) (fun hb2 => ?_)
    · have hlt : i < k.batches.length := by simpa using hb2
      have hw : IntKind.i64.wrap ((i : Int) + 1) = ((i + 1 : Nat) : Int) := by rw [z16 (by omega)]; simp
      have gb := z155 hlt
      rw [Batch.row] at gb
      have hni : ¬ ((i : Int) < 0) := by omega
      obtain ⟨A, hA⟩ : ∃ A, A = (amtK k).take i := ⟨_, rfl⟩
      have hAl : A.length ≤ 16 := by rw [hA]; simp; omega
      have hn : A.length + 1 ≤ 549755813888 := by omega
      have e1 : (amtK k).take (i + 1) = A ++ [(batAt k i).amount] := by
        obtain ⟨x, hx⟩ : ∃ x, k.batches[i]? = some x := ⟨_, List.getElem?_eq_getElem hlt⟩
        have hx2 : (amtK k)[i]? = some x.amount := by simp [amtK, hx]
        rw [List.take_add_one, hx2, ← hA, batAt, List.getD, hx]
        rfl
      have s1 : intRows A ++ [[.i (batAt k i).amount]] = intRows ((amtK k).take (i + 1)) := by rw [e1]; simp [intRows]
      rw [← hA]
      repeat (first | refine nx ?_ | (refine z10 fun K hK => ?_; simp (maxSteps := 4000000) only [go_sem, gb, hni, hn, s1, hw]; refine hK _ ?_; clear hK K))
      refine ⟨rfl, i + 1, ?_, hlt, by omega⟩
      refine z13 [] ?_ ?_ rfl rfl <;> simp [lessT, lessM, lessB, AV.less]
      all_goals first | done | rfl | trace_state
    · have he : i = k.batches.length := by (have : ¬ i < k.batches.length := by simpa using hb2); omega
      subst he
      have e1 : (amtK k).take k.batches.length = amtK k := by rw [amtK, List.take_of_length_le (by simp)]
      rw [e1]
      repeat (first | refine nx ?_ | (refine z10 fun K hK => ?_; simp (maxSteps := 4000000) only [go_sem]; refine hK _ ?_; clear hK K))
      refine z15 (fun (q : Nat × List Int × Int) => [(10, .d (.i (q.1 : Int))), (7, .d (.i q.2.2)), (6, .own 29)]) (fun q => [(29, some (.arr 3 1 (intRows q.2.1)))]) (fun q => q.1 ≤ M.length ∧ runSt k M cnt q.1 = some q.2) (fun q => M.length - q.1) (0, amtK k, 0) ?_ ⟨Nat.zero_le _, rfl⟩ ?_
      · simp (maxSteps := 4000000) only [go_sem]
        refine z13 [] ?_ ?_ rfl rfl <;> simp [lessT, lessM, lessB, AV.less]
        all_goals first | done | rfl | trace_state
      · rintro ⟨d, l, w⟩ ⟨hd, hrun⟩
        dsimp only at hd hrun
        obtain ⟨hla, hll, hw0, hw1⟩ := z219 hg hM hc d (l, w) hd hrun
        dsimp only at hla hll hw0 hw1
        have hsome : (runSt k M cnt d).isSome = true := by rw [hrun]; rfl
        simp (maxSteps := 4000000) only [go_sem]
        repeat (first | refine nx ?_ | (refine z10 fun K hK => ?_; simp (maxSteps := 4000000) only [go_sem, z20]; refine hK _ ?_; clear hK K))
        refine z14 rfl (fun hb2 => ?_) (fun hb2 => ?_)
        · have hlt : d < M.length := by simpa using hb2
          have hw : IntKind.i64.wrap ((d : Int) + 1) = ((d + 1 : Nat) : Int) := by rw [z16 (by omega)]; simp
          have hst0 : clrTo k (d : Int) l w 0 = (l, w) := rfl
          obtain ⟨R, hR⟩ : ∃ R, R = clrTo k (d : Int) l w := ⟨_, rfl⟩
          have hRl : ∀ j, (R j).1.length = l.length := by rw [hR]; exact z39 k _ l w
          have hRo : ∀ j, AmtOk (R j).1 ∧ w ≤ (R j).2 ∧ (R j).2 ≤ w + 9000000 * j := by rw [hR]; exact z47 hla
          have hRs : ∀ j, R (j + 1) = if (batAt k j).last < (d : Int) then ((R j).1.set j 0, (R j).2 + getI (R j).1 (j : Int)) else R j := by rw [hR]; exact fun j => rfl
          rw [← hR] at hst0
          repeat (first | refine nx ?_ | (refine z10 fun K hK => ?_; simp (maxSteps := 4000000) only [go_sem]; refine hK _ ?_; clear hK K))
          refine z15 (fun (i : Nat) => [(11, .d (.i (i : Int))), (7, .d (.i (R i).2))]) (fun i => [(29, some (.arr 3 1 (intRows (R i).1)))]) (fun i => i ≤ k.batches.length) (fun i => k.batches.length - i) 0 ?_ (Nat.zero_le _) ?_
          · rw [hst0]
            simp (maxSteps := 4000000) only [go_sem]
            refine z13 [] ?_ ?_ rfl rfl <;> simp [lessT, lessM, lessB, AV.less]
            all_goals first | done | rfl | trace_state
          · intro i hi
            have hAl := hRl i
            obtain ⟨hok, hw1', hw2'⟩ := hRo i
            have hnx := hRs i
            obtain ⟨⟨A, v⟩, hAv⟩ : ∃ p, R i = p := ⟨_, rfl⟩
            rw [hAv] at hAl hok hw1' hw2' hnx ⊢
            dsimp only at hAl hok hw1' hw2' hnx ⊢
            have hAk : A.length = k.batches.length := by omega
            simp (maxSteps := 4000000) only [go_sem]
            repeat (first | refine nx ?_ | (refine z10 fun K hK => ?_; simp (maxSteps := 4000000) only [go_sem, z19, hAk]; refine hK _ ?_; clear hK K))
            refine z14 rfl (fun hb3 => ?_) (fun hb3 => ?_)
            · have hlti : i < k.batches.length := by simpa using hb3
              have hwi : IntKind.i64.wrap ((i : Int) + 1) = ((i + 1 : Nat) : Int) := by rw [z16 (by omega)]; simp
              have gb := z155 hlti
              rw [Batch.row] at gb
              have hni : ¬ ((i : Int) < 0) := by omega
              have hiA : i < A.length := by omega
              have gA := z21 hiA
              have hgA := hok.get (i : Int)
              have e1 : IntKind.i64.wrap (v + getI A (i : Int)) = v + getI A (i : Int) := z16 (by omega)
              have su : (intRows A).set i [.i 0] = intRows (A.set i 0) := z43 A i 0
              by_cases hq : (batAt k i).last < (d : Int)
              · rw [if_pos hq] at hnx
                have dd : decide ((batAt k i).last < (d : Int)) = true := decide_eq_true hq
                repeat (first | refine z12 rfl ?_ | refine z11 rfl ?_ | refine nx ?_ | (refine z10 fun K hK => ?_; simp (maxSteps := 4000000) only [go_sem, gb, hni, dd, hiA, gA, e1, su, hwi]; refine hK _ ?_; clear hK K))
                refine ⟨rfl, i + 1, ?_, hlti, by omega⟩
                rw [hnx]
                refine z13 [] ?_ ?_ rfl rfl <;> simp [lessT, lessM, lessB, AV.less]
                all_goals first | done | rfl | trace_state
              · rw [if_neg hq] at hnx
                have dd : decide ((batAt k i).last < (d : Int)) = false := decide_eq_false hq
                repeat (first | refine z12 rfl ?_ | refine z11 rfl ?_ | refine nx ?_ | (refine z10 fun K hK => ?_; simp (maxSteps := 4000000) only [go_sem, gb, hni, dd, hwi]; refine hK _ ?_; clear hK K))
                refine ⟨rfl, i + 1, ?_, hlti, by omega⟩
                rw [hnx]
                refine z13 [] ?_ ?_ rfl rfl <;> simp [lessT, lessM, lessB, AV.less]
                all_goals first | done | rfl | trace_state
            · have he : i = k.batches.length := by (have : ¬ i < k.batches.length := by simpa using hb3); omega
              subst he
              have hclr : clrD k d (l, w) = (A, v) := by rw [← hAv, hR]; rfl
              obtain ⟨r, hr⟩ : ∃ r, M[d]? = some r := ⟨_, List.getElem?_eq_getElem hlt⟩
              obtain ⟨_, hrl, hdo⟩ := z154 hg hM hc hr
              obtain ⟨c, hcd⟩ : ∃ c, C[d]? = some c := ⟨_, List.getElem?_eq_getElem (by omega)⟩
              obtain ⟨x, hx, hxo⟩ := z125 hC hcd
              have ex : k.days.getD d [] = x := by rw [List.getD, hx]; rfl
              have hcl := z87 hxo
              have ec : cnt d = fun (g : Nat) => getI c (g : Int) := by funext g; rw [hcnt, cntOf, List.getD_eq_getElem?_getD, hcd]; rfl
              have hMr : M.getD d [] = r := by rw [List.getD, hr]; rfl
              have hCr : C.getD d [] = c := by rw [List.getD, hcd]; rfl
              rw [ec] at hdo
              have h85 := z1124 k hg A r c (by omega) hok hdo (by rw [hrl, ex, hcl])
              have hnd0 : needD k M cnt d = needL k r fun (g : Nat) => getI c (g : Int) := by rw [needD, hMr, ec]
              have hstep : runSt k M cnt (d + 1) = (takeTo k (ordK k) (needL k r fun (g : Nat) => getI c (g : Int)) A k.allerg.length).map fun l => (l, v) := by rw [runSt, hrun, ← hnd0]; dsimp only; rw [hclr]
              have gm := z549 (M := M) (j := d) hlt
              have gc := z549 (M := C) (j := d) (by omega)
              rw [← hMr, ← hCr] at h85 hstep
              have hnd : ¬ ((d : Int) < 0) := by omega
              obtain ⟨Cl, hCl2⟩ : ∃ X, X = A := ⟨_, rfl⟩
              rw [← hCl2] at h85 hstep hclr ⊢
              repeat refine nx ?_
              refine z23 [29] ?_
              simp (maxSteps := 4000000) only [go_sem]
              cases htk : takeTo k (ordK k) (needL k (M.getD d []) fun (g : Nat) => getI (C.getD d []) (g : Int)) Cl k.allerg.length with
              | none =>
                rw [htk] at h85 hstep
                simp only [ServeC] at h85
                rw [Kitchen.cells] at h85
                have hnone : runSt k M cnt (d + 1) = none := hstep
                have eD : lastD k M cnt M.length = d := z412 hsome hnone (by omega)
                have eE : endSt k M cnt = (Cl, v) := by
                  rw [endSt, eD, hrun, if_pos hlt]
                  exact hclr
                rw [eD, eE]
                refine z86 (fun b => [(60, bif b 0 then .undef else .agg [.d (.sl (intRows k.allerg)), .d (.sl (batRows k.batches)), .d (.sl (dishRows k.dishes)), .d (.sl (dayRows k.days))]), (61, bif b 1 then .undef else .d (.sl (intRows Cl))), (62, bif b 2 then .undef else .d (.sl (listRows M))), (63, bif b 3 then .undef else .d (.i (d : Int))),
                    (64, bif b 4 then .undef else .d (.ptr [.sl (intRows (M.getD d []))] 0)), (65, bif b 5 then .undef else .d (.sl (intRows (M.getD d [])))), (66, bif b 6 then .undef else .d (.sl (listRows C))), (67, bif b 7 then .undef else .d (.i (d : Int))), (68, bif b 8 then .undef else .d (.ptr [.sl (intRows (C.getD d []))] 0)), (69, bif b 9 then .undef else .d (.sl (intRows (C.getD d [])))), (70, bif b 10 then .undef else .d (.tup [.sl (intRows Cl), .bool false])), (59, bif b 11 then .undef else .d (.tup [.sl (intRows Cl), .bool false])), (71, bif b 12 then .undef else .d (.sl (intRows Cl))), (72, bif b 13 then .undef else .d (.bool false)), (12, bif b 14 then .undef else .d (.sl (intRows Cl))), (13, bif b 15 then .undef else .d (.bool false))])
                  (fun b => []) 16 (by kernel_rfl) (by kernel_rfl) (by kernel_rfl) (by decide) ?_ ?_ (Weak.refl _) ?_
                · simp (maxSteps := 4000000) only [go_sem]
                · refine ⟨?_, ?_, ?_, ?_, ?_, ?_, ?_, ?_, ?_, ?_, ?_, ?_, ?_, ?_, ?_, ?_, trivial⟩
                  all_goals
                    intro b hbm hdm _
                    simp only [depsM, Region.binds, true_and, and_true, Nat.zero_add, Nat.reduceAdd, reduceCtorEq, forall_const] at hdm
                    refine ⟨rfl, rfl, ?_⟩
                    simp (maxSteps := 4000000) only [go_sem, hbm, hdm, gm, gc, hnd]
                  · refine ⟨_, .given (hf := h85) (hd := rfl) (ha := rfl), ?_⟩
                    simp (maxSteps := 4000000) only [go_sem, hbm, hdm]
                · intro K hK
                  simp (maxSteps := 4000000) only [go_sem]
                  refine hK _ _ ?_
                  clear hK K
                  repeat (first | refine z12 rfl ?_ | refine z11 rfl ?_ | refine nx ?_ | (refine z10 fun K hK => ?_; simp (maxSteps := 4000000) only [go_sem]; refine hK _ ?_; clear hK K))
                  simp (maxSteps := 4000000) only [go_sem]
              | some c' =>
                rw [htk] at h85 hstep
                simp only [ServeC] at h85
                rw [Kitchen.cells] at h85
                have hsm : runSt k M cnt (d + 1) = some (c', v) := hstep
                refine z86 (fun b => [(60, bif b 0 then .undef else .agg [.d (.sl (intRows k.allerg)), .d (.sl (batRows k.batches)), .d (.sl (dishRows k.dishes)), .d (.sl (dayRows k.days))]), (61, bif b 1 then .undef else .d (.sl (intRows Cl))), (62, bif b 2 then .undef else .d (.sl (listRows M))), (63, bif b 3 then .undef else .d (.i (d : Int))),
                    (64, bif b 4 then .undef else .d (.ptr [.sl (intRows (M.getD d []))] 0)), (65, bif b 5 then .undef else .d (.sl (intRows (M.getD d [])))), (66, bif b 6 then .undef else .d (.sl (listRows C))), (67, bif b 7 then .undef else .d (.i (d : Int))), (68, bif b 8 then .undef else .d (.ptr [.sl (intRows (C.getD d []))] 0)), (69, bif b 9 then .undef else .d (.sl (intRows (C.getD d [])))), (70, bif b 10 then .undef else .tup [.own 21, .d (.bool true)]), (59, bif b 11 then .undef else .tup [.own 21, .d (.bool true)]), (71, bif b 12 then .undef else .own 21), (72, bif b 13 then .undef else .d (.bool true)), (12, bif b 14 then .undef else .own 21), (13, bif b 15 then .undef else .d (.bool true))])
                  (fun b => [(21, bif b 10 then none else some (.arr 3 1 (intRows c')))]) 16 (by kernel_rfl) (by kernel_rfl) (by kernel_rfl) (by decide) ?_ ?_ (Weak.refl _) ?_
                · simp (maxSteps := 4000000) only [go_sem]
                · refine ⟨?_, ?_, ?_, ?_, ?_, ?_, ?_, ?_, ?_, ?_, ?_, ?_, ?_, ?_, ?_, ?_, trivial⟩
                  all_goals
                    intro b hbm hdm _
                    simp only [depsM, Region.binds, true_and, and_true, Nat.zero_add, Nat.reduceAdd, reduceCtorEq, forall_const] at hdm
                    refine ⟨rfl, rfl, ?_⟩
                    simp (maxSteps := 4000000) only [go_sem, hbm, hdm, gm, gc, hnd]
                  · refine ⟨_, .made (news := [21]) (hf := h85) (hd := rfl) (hn := by decide) (hl := rfl) (hnew := rfl) (hx := rfl), ?_⟩
                    simp (maxSteps := 4000000) only [go_sem, List.map_cons, List.map_nil, hbm, hdm]
                · intro K hK
                  simp (maxSteps := 4000000) only [go_sem]
                  refine hK _ _ ?_
                  clear hK K
                  repeat refine nx ?_
                  refine z10 fun K hK => ?_
                  simp (maxSteps := 4000000) only [go_sem]
                  refine hK _ ?_
                  clear hK K
                  refine z11 rfl ?_
                  refine z273 21 29 ?_
                  simp (maxSteps := 4000000) only [go_sem]
                  repeat (first | refine nx ?_ | (refine z10 fun K hK => ?_; simp (maxSteps := 4000000) only [go_sem, hw]; refine hK _ ?_; clear hK K))
                  refine ⟨rfl, (d + 1, c', v), ?_, ⟨hlt, hsm⟩, by dsimp only; omega⟩
                  refine z13 [] ?_ ?_ rfl rfl <;> simp [lessT, lessM, lessB, AV.less]
                  all_goals first | done | rfl | trace_state
        · have he : d = M.length := by (have : ¬ d < M.length := by simpa using hb2); omega
          subst he
          have eD : lastD k M cnt M.length = M.length := z135 hsome
          have eE : endSt k M cnt = (l, w) := by
            rw [endSt, eD, hrun, if_neg (Nat.lt_irrefl _)]
            rfl
          rw [eD, eE]
          repeat (first | refine nx ?_ | (refine z10 fun K hK => ?_; simp (maxSteps := 4000000) only [go_sem, z20]; refine hK _ ?_; clear hK K))
          simp (maxSteps := 4000000) only [go_sem]
end Go.Ab
namespace Go.Ab
open Go.RowKit Go.Proofs
set_option maxHeartbeats 16000000
set_option maxRecDepth 20000
attribute [local irreducible] WalkL Walk
def pickC (k : Kitchen) (b : Bool) (d g : Nat) : Int := if b = true then (dinAt k d g).count.hi else (dinAt k d g).count.lo
theorem z1034 {k : Kitchen} {b : Bool} {d g : Nat} (hd : d < k.days.length) (hg : g < (k.days.getD d []).length) : cntOf (endsL k b) d g = pickC k b d g := by
  obtain ⟨x, hx⟩ : ∃ x, k.days[d]? = some x := ⟨_, List.getElem?_eq_getElem hd⟩
  have e : k.days.getD d [] = x := by rw [List.getD_eq_getElem?_getD, hx]; rfl
  rw [e] at hg
  obtain ⟨y, hy⟩ : ∃ y, x[g]? = some y := ⟨_, List.getElem?_eq_getElem hg⟩
  have e2 : dinAt k d g = y := by rw [dinAt, e, List.getD_eq_getElem?_getD, hy]; rfl
  rw [cntOf, endsL, List.getD_eq_getElem?_getD, List.getElem?_map, hx, Option.map_some, Option.getD_some, z114, endRow, List.getD_eq_getElem?_getD, List.getElem?_map, hy, pickC, e2]
  rfl
theorem z347 {k : Kitchen} (hg : KitWide k) (b : Bool) : shapedB countB (endsL k b) k.days = true := by
  refine z215 (by simp [endsL]) fun i r x h1 h2 => ?_
  rw [endsL, List.getElem?_map, h2] at h1
  cases h1
  refine z475 (by simp [endRow]) fun g n y h3 h4 => ?_
  rw [endRow, List.getElem?_map, h4] at h3
  cases h3
  have := ((hg.groups x (List.mem_of_getElem? h2)).2 y (List.mem_of_getElem? h4)).2
  refine z36.2 ?_
  cases b <;> dsimp only [Bool.false_eq_true, if_true, if_false] <;> simp only [if_true, if_false, Bool.false_eq_true] <;> omega
theorem z322 {k : Kitchen} {ds : List Int} {c c' : Nat → Int} {good : Nat} : ∀ n, (∀ g, g < n → c g = c' g) → needG k ds c good n = needG k ds c' good n
  | 0, _ => rfl
  | n + 1, h => by rw [needG, needG, z322 n fun g hg => h g (by omega), h n (by omega)]
theorem z715 {k : Kitchen} {M : List (List Int)} {c c' : Nat → Nat → Int} {d : Nat} (h : ∀ g, g < (M.getD d []).length → c d g = c' d g) : needD k M c d = needD k M c' d := by
  rw [needD, needD, needL, needL]
  exact List.map_congr_left fun x _ => z322 _ h
theorem z195 {k : Kitchen} {M : List (List Int)} {c c' : Nat → Nat → Int} : ∀ d, (∀ e g, e < d → g < (M.getD e []).length → c e g = c' e g) → runSt k M c d = runSt k M c' d
  | 0, _ => rfl
  | d + 1, h => by rw [runSt, runSt, z195 d fun e g he => h e g (by omega), z715 fun g hg => h d g (by omega) hg]
theorem z330 {k : Kitchen} {M : List (List Int)} {c c' : Nat → Nat → Int} : ∀ d, (∀ e g, e < d → g < (M.getD e []).length → c e g = c' e g) → lastD k M c d = lastD k M c' d
  | 0, _ => rfl
  | d + 1, h => by rw [lastD, lastD, z195 (d + 1) h, z330 d fun e g he => h e g (by omega)]
theorem z610 {k : Kitchen} (hg : KitWide k) {M : List (List Int)} (hM : shapedB (menuB k) M k.days = true) (b : Bool) :
    lastD k M (cntOf (endsL k b)) M.length = lastD k M (pickC k b) M.length ∧ endSt k M (cntOf (endsL k b)) = endSt k M (pickC k b) := by
  have key : ∀ e g, e < M.length → g < (M.getD e []).length → cntOf (endsL k b) e g = pickC k b e g := fun e g he hgl => by
    obtain ⟨r, hr⟩ : ∃ r, M[e]? = some r := ⟨_, List.getElem?_eq_getElem he⟩
    obtain ⟨h1, h2, _⟩ := z154 hg hM (z932 hg (z347 hg b)) hr
    rw [List.getD_eq_getElem?_getD, hr, Option.getD_some, h2] at hgl
    exact z1034 h1 hgl
  have hl := z330 (k := k) M.length key
  refine ⟨hl, ?_⟩
  rw [endSt, endSt, hl, z195 (k := k) _ fun e g he => key e g (by have := z487 k M (pickC k b) M.length; omega)]
theorem z1016 (k : Kitchen) (M : List (List Int)) : lastD k M (pickC k true) M.length = mostK k M := rfl
end Go.Ab
namespace Go.Ab
open Go.RowKit Go.Proofs
set_option maxHeartbeats 16000000
set_option maxRecDepth 20000
attribute [local irreducible] WalkL Walk
theorem z1105 (k : Kitchen) (hg : KitWide k) (M : List (List Int)) (hM : shapedB (menuB k) M k.days = true) :
    Fn Try.prog 29 [.agg k.cells, .sl (listRows M)] (.tup [.bool ((mostK k M : Int) == (k.days.length : Int)), .i (endSt k M (pickC k true)).2]) := by
  have h59 := z1143 k hg true
  have h58 := z1144 k hg M (endsL k true) hM (z347 hg true)
  rw [(z610 hg hM true).1, (z610 hg hM true).2, z1016] at h58
  obtain ⟨⟨E, W⟩, hE⟩ : ∃ E, E = endSt k M (pickC k true) := ⟨_, rfl⟩
  rw [← hE] at h58 ⊢
  dsimp only at h58 ⊢
  obtain ⟨m, hm⟩ : ∃ m, m = mostK k M := ⟨_, rfl⟩
  rw [← hm] at h58 ⊢
  rw [Kitchen.cells] at h58 h59
  refine z18 24 Try.call29 Try.func29 rfl (by decide) fun J => ?_
  simp (maxSteps := 4000000) only [go_sem, St.start, Try.ntmps29, Try.results29, Kitchen.cells]
  repeat (first | refine nx ?_ | (refine z10 fun K hK => ?_; simp (maxSteps := 4000000) only [go_sem]; refine hK _ ?_; clear hK K))
  refine z17 (by kernel_rfl) (by kernel_rfl) fun K hK => ?_
  simp (maxSteps := 4000000) only [go_sem]
  refine ⟨_, .fn (hf := h59) (hd := rfl) (hr := .inr rfl), ?_⟩
  simp (maxSteps := 4000000) only [go_sem]
  refine ⟨_, .fn (hf := h58) (hd := rfl) (hr := .inr rfl), ?_⟩
  simp (maxSteps := 4000000) only [go_sem]
  refine ⟨by kernel_rfl, hK _ ?_⟩
  clear hK K
  repeat (first | refine nx ?_ | (refine z10 fun K hK => ?_; simp (maxSteps := 4000000) only [go_sem]; refine hK _ ?_; clear hK K))
  simp (maxSteps := 4000000) only [go_sem]
end Go.Ab
namespace Go.Ab
open Go.RowKit Go.Proofs
def erow : List Int → List Int → Option Bool
  | x :: a, y :: b => if x = y then erow a b else some (decide (x < y))
  | _, _ => none
def earlierB : List (List Int) → List (List Int) → Bool
  | r :: M, p :: P => (erow r p).getD (earlierB M P)
  | _, _ => false
theorem z344 : ∀ a : List Int, erow a a = none
  | [] => rfl
  | x :: a => by rw [erow, if_pos rfl, z344 a]
theorem z607 : ∀ {a b : List Int}, erow a b = some true → erow b a = some false
  | x :: a, y :: b, h => by
    rw [erow] at h ⊢
    by_cases e : x = y
    · rw [if_pos e] at h
      rw [if_pos e.symm]
      exact z607 h
    · rw [if_neg e] at h
      rw [if_neg (fun c => e c.symm)]
      have : x < y := by simpa using h
      simp only [Option.some.injEq, decide_eq_false_iff_not]
      omega
  | [], _, h => by cases h
  | _ :: _, [], h => by cases h
theorem z759 {x y : Int} (h : x < y) (a b : List Int) : ∀ p : List Int, erow (p ++ x :: a) (p ++ y :: b) = some true
  | [] => by rw [List.nil_append, List.nil_append, erow, if_neg (by omega), decide_eq_true h]
  | z :: p => by rw [List.cons_append, List.cons_append, erow, if_pos rfl, z759 h a b p]
def ERow (a b : List Int) : Prop := erow a b = some true
theorem z362 : ∀ (SS : List (List Int)) (pre : List Int), (∀ S ∈ SS, S.Pairwise (· < ·)) → (addL SS pre).Pairwise ERow
  | [], pre, _ => by rw [addL]; exact List.pairwise_singleton _ _
  | S :: gs, pre, h => by
    rw [addL, List.pairwise_flatMap]
    refine ⟨fun d _ => z362 gs _ fun T hT => h T (by simp [hT]), (h S (by simp)).imp fun {d e} hde x hx y hy => ?_⟩
    obtain ⟨t, rfl, _⟩ := z183.1 hx
    obtain ⟨u, rfl, _⟩ := z183.1 hy
    rw [ERow, List.append_assoc, List.append_assoc]
    exact z759 hde t u pre
theorem z537 (k : Kitchen) (no : Int) : (suitL k no).Pairwise (· < ·) := by
  rw [suitL, suitTo7, List.pairwise_map]
  exact (List.pairwise_lt_range.filter _).imp fun {a b} (h : a < b) => by omega
theorem z117 (k : Kitchen) (d : Nat) : (choicesL k d).Pairwise ERow := z362 _ _ fun S hS => by
  obtain ⟨g, _, rfl⟩ := List.mem_map.1 hS
  exact z537 k _
theorem z1012 {k : Kitchen} {n no : Int} (h0 : 0 ≤ n) (h1 : n < k.dishes.length) (hs : suitsB k n no = true) : n ∈ suitL k no := by
  obtain ⟨m, rfl⟩ : ∃ m : Nat, n = m := ⟨n.toNat, by omega⟩
  exact List.mem_map.2 ⟨m, List.mem_filter.2 ⟨List.mem_range.2 (by omega), hs⟩, rfl⟩
theorem z889 {k : Kitchen} : ∀ {r : List Int} {x : List Diners}, rowOk (menuB k) r x = true → Pick (x.map fun g => suitL k g.no) r
  | [], [], _ => trivial
  | n :: r, g :: x, h => by
    rw [rowOk, Bool.and_eq_true, menuB, Bool.and_eq_true] at h
    have := z36.1 h.1.1
    exact ⟨z1012 this.1 (by omega) h.1.2, z889 h.2⟩
  | [], _ :: _, h => by cases h
  | _ :: _, [], h => by cases h
theorem z251 {k : Kitchen} {M : List (List Int)} (hM : shapedB (menuB k) M k.days = true) {i : Nat} {r : List Int} (hr : M[i]? = some r) : r ∈ choicesL k i := by
  obtain ⟨x, hx, ho⟩ := z125 hM hr
  have e : k.days.getD i [] = x := by rw [List.getD_eq_getElem?_getD, hx]; rfl
  exact z183.2 ⟨r, rfl, by rw [suitDay, e]; exact z889 ho⟩
theorem z622 {k : Kitchen} {d : Nat} {c : List Int × Int} {rec : List Int → PlanV} : ∀ (N : List (List Int)) (a : PlanV), (N.foldl (bestSN k d c rec) a).1 ≤ a.1 ∧ ((N.foldl (bestSN k d c rec) a).1 = a.1 → N.foldl (bestSN k d c rec) a = a)
  | [], a => ⟨Int.le_refl _, fun _ => rfl⟩
  | m :: N, a => by
    rw [List.foldl_cons]
    obtain ⟨h1, h2⟩ := z622 (k := k) (d := d) (c := c) (rec := rec) N (bestSN k d c rec a m)
    have h3 : bestSN k d c rec a m = a ∨ (bestSN k d c rec a m).1 < a.1 := by
      unfold bestSN
      split
      · exact .inl rfl
      · split
        · rename_i h; exact .inr h
        · exact .inl rfl
    rcases h3 with h3 | h3
    · rw [h3] at h1 h2 ⊢
      exact ⟨h1, h2⟩
    · exact ⟨by omega, fun h => by omega⟩
theorem z172 {k : Kitchen} {d : Nat} {c : List Int × Int} {rec : List Int → PlanV} {m l' : List Int} (ht : takeD k d m c.1 = some l') : ∀ (N : List (List Int)) (a : PlanV), N.Pairwise ERow → m ∈ N → c.2 + (rec l').1 < a.1 →
    (N.foldl (bestSN k d c rec) a).1 ≤ c.2 + (rec l').1 ∧ ((N.foldl (bestSN k d c rec) a).1 = c.2 + (rec l').1 → (N.foldl (bestSN k d c rec) a).2 = m ∨ ERow (N.foldl (bestSN k d c rec) a).2 m)
  | [], a, _, hm, _ => by cases hm
  | x :: N, a, hp, hm, hlt => by
    rw [List.pairwise_cons] at hp
    rw [List.foldl_cons]
    obtain ⟨h1, h2⟩ := z622 (k := k) (d := d) (c := c) (rec := rec) N (bestSN k d c rec a x)
    by_cases hx : m = x
    · subst hx
      have e : bestSN k d c rec a m = (c.2 + (rec l').1, m) := by rw [bestSN, ht]; dsimp only; rw [if_pos hlt]
      rw [e] at h1 h2 ⊢
      exact ⟨h1, fun h => .inl (by rw [h2 h])⟩
    · have hmN : m ∈ N := by simpa [hx] using hm
      by_cases hl : c.2 + (rec l').1 < (bestSN k d c rec a x).1
      · exact z172 ht N _ hp.2 hmN hl
      · have h3 : (bestSN k d c rec a x).2 = x := by
          unfold bestSN at hl ⊢
          split
          · rename_i e; rw [e] at hl; exact absurd hlt hl
          · rename_i e
            rw [e] at hl
            dsimp only at hl
            split
            · rfl
            · rename_i q; rw [if_neg q] at hl; exact absurd hlt hl
        refine ⟨by omega, fun h => .inr ?_⟩
        rw [h2 (by omega), h3]
        exact hp.1 m hmN
def runF (k : Kitchen) : Nat → List Int → List (List Int) → Option Int
  | _, _, [] => some 0
  | d, l, m :: ms => match takeD k d m (clr0 k d l).1 with
    | none => none
    | some l' => (runF k (d + 1) l' ms).map ((clr0 k d l).2 + ·)
theorem z615 (k : Kitchen) (day : Int) (l : List Int) (w : Int) : ∀ j, (clrTo k day l w j).2 = w + (clrTo k day l 0 j).2
  | 0 => by simp [clrTo]
  | j + 1 => by
    have ih := z615 k day l w j
    have e := z350 k day l w j
    rw [clrTo, clrTo]
    split
    · dsimp only
      rw [e]
      omega
    · exact ih
theorem z473 (k : Kitchen) (M : List (List Int)) : ∀ (c i : Nat) (l : List Int) (w : Int), i + c = M.length → runSt k M (hiC k) i = some (l, w) →
    runF k i l (M.drop i) = (runSt k M (hiC k) M.length).map fun a => a.2 - w
  | 0, i, l, w, hc, h => by
    have e : i = M.length := by omega
    subst e
    rw [List.drop_length, runF, h]
    simp
  | c + 1, i, l, w, hc, h => by
    obtain ⟨r, hr⟩ : ∃ r, M[i]? = some r := ⟨_, List.getElem?_eq_getElem (by omega)⟩
    have hgd : M.getD i [] = r := by rw [List.getD_eq_getElem?_getD, hr]; rfl
    have hn : needD k M (hiC k) i = needL k r (hiN k i) := by rw [needD, hgd]; rfl
    have hcl : (clrD k i (l, w)).1 = (clr0 k i l).1 := z350 k _ l w _
    have hcw : (clrD k i (l, w)).2 = w + (clr0 k i l).2 := z615 k _ l w _
    have hst : runSt k M (hiC k) (i + 1) = (takeD k i r (clr0 k i l).1).map fun x => (x, w + (clr0 k i l).2) := by
      rw [runSt, h]
      dsimp only
      rw [hn, hcl, hcw, takeD]
    rw [z25 hr, runF]
    cases ht : takeD k i r (clr0 k i l).1 with
    | none =>
      rw [ht] at hst
      rw [z176 hst (by omega)]
      rfl
    | some l' =>
      rw [ht] at hst
      dsimp only
      rw [Option.map_some] at hst
      rw [z473 k M c (i + 1) l' (w + (clr0 k i l).2) (by omega) hst]
      cases runSt k M (hiC k) M.length with
      | none => rfl
      | some a =>
        simp only [Option.map_some, Option.some.injEq]
        omega
theorem z403 {k : Kitchen} {i : Nat} (hi : i < k.days.length) : (planL k k.days.length).2.drop i = (bestN k (k.days.length - i) (planL k i).1).2 :: (planL k k.days.length).2.drop (i + 1) := z25 (z179 k i _ hi)
theorem z318 {k : Kitchen} (hg : KitGood k) (h : wasteK k < 1099511627776) : ∀ (c i : Nat), i + c = k.days.length → runF k i (planL k i).1 ((planL k k.days.length).2.drop i) = some (bestN k c (planL k i).1).1
  | 0, i, hc => by
    rw [List.drop_of_length_le (by rw [z59]; omega), runF, bestN]
  | c + 1, i, hc => by
    have hi : i < k.days.length := by omega
    obtain ⟨p1, p2⟩ := z140 hg i (by omega)
    obtain ⟨m, l', h1, h2, h3, h4⟩ := z236 hg hi p2 p1 (z126 hg h i (by omega))
    have ec : k.days.length - i = c + 1 := by omega
    have ec2 : k.days.length - (i + 1) = c := by omega
    have e : (planL k (i + 1)).1 = l' := by
      rw [z221, h3]
      dsimp only
      rw [h2]
      rfl
    have ih := z318 hg h c (i + 1) (by omega)
    rw [e] at ih
    rw [z403 hi, runF, h3]
    dsimp only
    rw [h2]
    dsimp only
    rw [ih]
    rw [ec, ec2] at h3
    rw [h3]
    rfl
theorem z199 {k : Kitchen} (hg : KitGood k) {M : List (List Int)} (hM : shapedB (menuB k) M k.days = true) : ∀ (c i : Nat) (l : List Int) (n : Int), i + c = k.days.length → l.length = k.batches.length → AmtOk l →
    runF k i l (M.drop i) = some n → n < 1099511627776 → (bestN k c l).1 ≤ n
  | 0, i, l, n, hc, hl, ha, h, hn => by
    rw [List.drop_of_length_le (by rw [z27 hM]; omega), runF] at h
    cases h
    exact Int.le_refl _
  | c + 1, i, l, n, hc, hl, ha, h, hn => by
    have hi : i < k.days.length := by omega
    have hMl := z27 hM
    obtain ⟨r, hr⟩ : ∃ r, M[i]? = some r := ⟨_, List.getElem?_eq_getElem (by omega)⟩
    have hrc := z251 hM hr
    obtain ⟨c1, c2, c3, c4⟩ := z264 hg (d := i) hl ha
    rw [z25 hr, runF] at h
    cases ht : takeD k i r (clr0 k i l).1 with
    | none => rw [ht] at h; cases h
    | some l' =>
      rw [ht] at h
      dsimp only at h
      obtain ⟨n', hn', rfl⟩ := Option.map_eq_some_iff.1 h
      obtain ⟨t1, t2⟩ := z214 hg hi (z252 hg hi hrc).2 c1 ht
      have ih := z199 hg hM c (i + 1) l' n' (by omega) (by omega) t1 hn' (by omega)
      have e : i = k.days.length - (c + 1) := by omega
      have hN : bestN k (c + 1) l = (choicesL k i).foldl (bestSN k i (clr0 k i l) (bestN k c)) (1099511627776, []) := by rw [bestN, ← e]; rfl
      have := (z172 (rec := bestN k c) ht (choicesL k i) (1099511627776, []) (z117 k i) hrc (by dsimp only; omega)).1
      rw [hN]
      omega
theorem z319 {k : Kitchen} (hg : KitGood k) (h : wasteK k < 1099511627776) {M : List (List Int)} (hM : shapedB (menuB k) M k.days = true) : ∀ (c i : Nat), i + c = k.days.length →
    runF k i (planL k i).1 (M.drop i) = some (bestN k c (planL k i).1).1 → earlierB (M.drop i) ((planL k k.days.length).2.drop i) = false
  | 0, i, hc, hr => by
    rw [List.drop_of_length_le (by rw [z27 hM]; omega)]
    rfl
  | c + 1, i, hc, hf => by
    have hi : i < k.days.length := by omega
    have hMl := z27 hM
    obtain ⟨p1, p2⟩ := z140 hg i (by omega)
    obtain ⟨m, l', h1, h2, h3, h4⟩ := z236 hg hi p2 p1 (z126 hg h i (by omega))
    have ec : k.days.length - i = c + 1 := by omega
    have ec2 : k.days.length - (i + 1) = c := by omega
    have e1 : (planL k (i + 1)).1 = l' := by
      rw [z221, h3]
      dsimp only
      rw [h2]
      rfl
    obtain ⟨r, hr⟩ : ∃ r, M[i]? = some r := ⟨_, List.getElem?_eq_getElem (by omega)⟩
    have hrc := z251 hM hr
    obtain ⟨c1, c2, c3, c4⟩ := z264 hg (d := i) p2 p1
    rw [z403 hi, h3, z25 hr, earlierB]
    rw [z25 hr, runF] at hf
    rw [ec, ec2] at h3
    rw [ec2] at h4
    dsimp only
    cases ht : takeD k i r (clr0 k i (planL k i).1).1 with
    | none => rw [ht] at hf; cases hf
    | some l2 =>
      rw [ht] at hf
      dsimp only at hf
      obtain ⟨n', hn', he⟩ := Option.map_eq_some_iff.1 hf
      rw [h3] at he
      dsimp only at he
      have hn2 : n' = (bestN k c l').1 := by omega
      by_cases hmr : r = m
      · subst hmr
        rw [h2] at ht
        cases ht
        rw [z344, Option.getD_none]
        refine z319 hg h hM c (i + 1) (by omega) ?_
        rw [e1, hn', hn2]
      · obtain ⟨t1, t2⟩ := z214 hg hi (z252 hg hi hrc).2 c1 ht
        have hle := z199 hg hM c (i + 1) l2 n' (by omega) (by omega) t1 hn' (by omega)
        have e : i = k.days.length - (c + 1) := by omega
        have hN : bestN k (c + 1) (planL k i).1 = (choicesL k i).foldl (bestSN k i (clr0 k i (planL k i).1) (bestN k c)) (1099511627776, []) := by rw [bestN, ← e]; rfl
        have hb : (bestN k (c + 1) (planL k i).1).1 < 1099511627776 := by have := z126 hg h i (by omega); rwa [ec] at this
        have h31 : (bestN k (c + 1) (planL k i).1).1 = (clr0 k i (planL k i).1).2 + (bestN k c l').1 := by rw [h3]
        obtain ⟨q1, q2⟩ := z172 (rec := bestN k c) ht (choicesL k i) (1099511627776, []) (z117 k i) hrc (by dsimp only; omega)
        rw [← hN] at q1 q2
        have q3 := q2 (by omega)
        rw [h3] at q3
        rcases q3 with q3 | q3
        · exact absurd q3.symm hmr
        · have := z607 q3
          dsimp only at this
          rw [this]
          rfl
theorem z745 {k : Kitchen} {M : List (List Int)} (hM : M.length = k.days.length) : mostK k M = k.days.length ↔ (runSt k M (hiC k) M.length).isSome = true := by
  constructor
  · intro h
    cases hr : runSt k M (hiC k) M.length with
    | some _ => rfl
    | none =>
      have h2 : lastD k M (hiC k) M.length = M.length := h.trans hM.symm
      cases hl : M.length with
      | zero => rw [hl] at hr; cases hr
      | succ d =>
        rw [hl] at hr h2
        rw [lastD, hr] at h2
        have := z487 k M (hiC k) d
        simp only [Option.isSome_none, Bool.false_eq_true, if_false] at h2
        omega
  · intro h
    rw [← hM]
    exact z135 h
theorem z277 {k : Kitchen} {M : List (List Int)} {a : List Int × Int} (h : runSt k M (hiC k) M.length = some a) : mostK k M = M.length ∧ (endSt k M (pickC k true)).2 = a.2 := by
  have hs : (runSt k M (hiC k) M.length).isSome = true := by rw [h]; rfl
  have hl : lastD k M (pickC k true) M.length = M.length := z135 hs
  refine ⟨z135 hs, ?_⟩
  have h2 : runSt k M (pickC k true) M.length = some a := h
  rw [endSt, hl, h2, if_neg (Nat.lt_irrefl _)]
  rfl
theorem z555 {k : Kitchen} (hg : KitGood k) (h : wasteK k < 1099511627776) : mostK k (planL k k.days.length).2 = k.days.length ∧ (endSt k (planL k k.days.length).2 (pickC k true)).2 = wasteK k := by
  have h1 := z318 hg h k.days.length 0 (by omega)
  have h2 := z473 k (planL k k.days.length).2 k.days.length 0 (amtK k) 0 (by rw [z59]; omega) rfl
  rw [List.drop_zero] at h1 h2
  change runF k 0 (amtK k) _ = some (wasteK k) at h1
  rw [h1] at h2
  cases hr : runSt k (planL k k.days.length).2 (hiC k) (planL k k.days.length).2.length with
  | none => rw [hr] at h2; cases h2
  | some a =>
    rw [hr] at h2
    simp only [Option.map_some, Option.some.injEq] at h2
    obtain ⟨q1, q2⟩ := z277 hr
    exact ⟨by rw [q1, z59], by rw [q2]; omega⟩
theorem z402 {k : Kitchen} (hg : KitGood k) {M : List (List Int)} (hM : shapedB (menuB k) M k.days = true) (h : mostK k M = k.days.length) :
    wasteK k < 1099511627776 ∧ wasteK k ≤ (endSt k M (pickC k true)).2 ∧ ((endSt k M (pickC k true)).2 = wasteK k → earlierB M (planL k k.days.length).2 = false) := by
  have hMl := z27 hM
  have hs := (z745 hMl).1 h
  obtain ⟨a, ha⟩ := Option.isSome_iff_exists.1 hs
  obtain ⟨q1, q2⟩ := z277 ha
  obtain ⟨r1, r2, r3, r4⟩ := z219 hg hM (z837 hg) M.length a (Nat.le_refl _) ha
  have hdy := hg.days
  have h2 := z473 k M M.length 0 (amtK k) 0 (by omega) rfl
  rw [List.drop_zero, ha] at h2
  simp only [Option.map_some, Int.sub_zero] at h2
  have hle := z199 hg hM k.days.length 0 (amtK k) a.2 (by omega) (z116 k) (z270 hg) (by rw [List.drop_zero]; exact h2) (by omega)
  have hw : wasteK k ≤ a.2 := hle
  refine ⟨by omega, by omega, fun he => ?_⟩
  have := z319 hg (by omega) hM k.days.length 0 (by omega) (by
    rw [List.drop_zero]
    change runF k 0 (amtK k) M = some (wasteK k)
    rw [h2, ← he, q2])
  rwa [List.drop_zero, List.drop_zero] at this
end Go.Ab
namespace Go.Ab
open Go.RowKit Go.Proofs
def sB (F : Batch → Int) : List Batch → Int
  | [] => 0
  | b :: l => F b + sB F l
def fB (g : Nat) (t : Int) (b : Batch) : Int := if b.good = (g : Int) ∧ t ≤ b.last then b.amount else 0
end Go.Ab
namespace Go.Ab
open Go.RowKit Go.Proofs
theorem z639 {k : Kitchen} {buy : List Int} (h30 : ∀ b ∈ k.batches, b.last ≤ 30) {good : Nat} {l r : List Int} {need : Int} (hl : l.length = k.batches.length) (hr : r.length = buy.length) (hg : good < buy.length)
    (hs : getI r (good : Int) < (takeG k (ordK k) good l need).2) : (takeG (moreK k buy) (ordK (moreK k buy)) good (l ++ r) need).2 > 0 := by
  have hlen : ∀ (o : List Nat) (a : List Int × Int), (o.foldl (takeStep k good) a).1.length = a.1.length := by
    intro o
    induction o with
    | nil => intro a; rfl
    | cons x o ih => intro a; rw [List.foldl_cons, ih, z467]
  rw [takeG, z559 buy h30, List.foldl_append, z341 (ordK k) l need hl (fun x hx => z46 hx)]
  rw [z261 (by rw [hlen]; exact hl) hr buy.length (Nat.le_refl _), if_pos hg]
  change getI r (good : Int) < (takeG k (ordK k) good l need).2 at hs
  change (takeG k (ordK k) good l need).2 - min (takeG k (ordK k) good l need).2 (getI r (good : Int)) > 0
  omega
section
variable {k : Kitchen} {needs C b : List Int} {B : Int} (hC : AmtOk C) (hb : BuyOk B b) (hB : 0 ≤ B) (hn : ∀ x ∈ needs, 0 ≤ x ∧ x ≤ 2 ^ 40)
include hC hb hB hn
theorem z244 {buy : List Int} (h30 : ∀ x ∈ k.batches, x.last ≤ 30) (hl : C.length = k.batches.length) (hbl : b.length = buy.length) : ∀ g, g ≤ buy.length → LeL (ordG k (ordK k) needs (C, b) g).2 buy →
    takeTo (moreK k buy) (ordK (moreK k buy)) needs (C ++ restL buy b) g = some ((ordG k (ordK k) needs (C, b) g).1 ++ restL buy (ordG k (ordK k) needs (C, b) g).2)
  | 0, _, _ => rfl
  | g + 1, hg, hle => by
    have hm := z560 (k := k) hC hb hB hn (g := g) (g' := g + 1) (by omega) (by omega)
    have ih := z244 h30 hl hbl g (by omega) (hm.trans hle)
    obtain ⟨_, h2, _, h4, _⟩ := z254 (k := k) (o := ordK k) (a := (C, b)) hC hb hB hn g
    dsimp only at h2 h4
    have e1 : (ordG k (ordK k) needs (C, b) (g + 1)).2 = (ordG k (ordK k) needs (C, b) g).2.set g (getI (ordG k (ordK k) needs (C, b) g).2 (g : Int) + (takeG k (ordK k) g (ordG k (ordK k) needs (C, b) g).1 (getI needs (g : Int))).2) := rfl
    have hs : (takeG k (ordK k) g (ordG k (ordK k) needs (C, b) g).1 (getI needs (g : Int))).2 ≤ getI (restL buy (ordG k (ordK k) needs (C, b) g).2) (g : Int) := by
      have h5 := hle g
      rw [e1, z73 (by omega)] at h5
      rw [z478 (by omega)]
      omega
    have ht := z777 (buy := buy) h30 (good := g) (need := getI needs (g : Int)) (l := (ordG k (ordK k) needs (C, b) g).1) (r := restL buy (ordG k (ordK k) needs (C, b) g).2) (by omega) (z163 _ _) (by omega) hs
    rw [takeTo, ih]
    dsimp only
    rw [ht]
    dsimp only
    rw [if_neg (by decide), z884 (by omega) (by omega)]
    rfl
theorem z775 {buy : List Int} (h30 : ∀ x ∈ k.batches, x.last ≤ 30) (hl : C.length = k.batches.length) (hbl : b.length = buy.length) {g : Nat} (hg : g < buy.length) (hle : LeL (ordG k (ordK k) needs (C, b) g).2 buy)
    (hno : ¬ LeL (ordG k (ordK k) needs (C, b) (g + 1)).2 buy) : takeTo (moreK k buy) (ordK (moreK k buy)) needs (C ++ restL buy b) (g + 1) = none := by
  have ih := z244 hC hb hB hn h30 hl hbl g (by omega) hle
  obtain ⟨_, h2, _, h4, _⟩ := z254 (k := k) (o := ordK k) (a := (C, b)) hC hb hB hn g
  dsimp only at h2 h4
  have e1 : (ordG k (ordK k) needs (C, b) (g + 1)).2 = (ordG k (ordK k) needs (C, b) g).2.set g (getI (ordG k (ordK k) needs (C, b) g).2 (g : Int) + (takeG k (ordK k) g (ordG k (ordK k) needs (C, b) g).1 (getI needs (g : Int))).2) := rfl
  have hs : getI (restL buy (ordG k (ordK k) needs (C, b) g).2) (g : Int) < (takeG k (ordK k) g (ordG k (ordK k) needs (C, b) g).1 (getI needs (g : Int))).2 := by
    rw [z478 (by omega)]
    by_cases hc : (takeG k (ordK k) g (ordG k (ordK k) needs (C, b) g).1 (getI needs (g : Int))).2 ≤ getI buy (g : Int) - getI (ordG k (ordK k) needs (C, b) g).2 (g : Int)
    · refine absurd (fun i => ?_) hno
      rw [e1]
      by_cases hi : g = i
      · subst hi
        rw [z73 (by omega)]
        omega
      · rw [z105 hi]
        exact hle i
    · omega
  have ht := z639 (buy := buy) h30 (good := g) (need := getI needs (g : Int)) (l := (ordG k (ordK k) needs (C, b) g).1) (r := restL buy (ordG k (ordK k) needs (C, b) g).2) (by omega) (z163 _ _) (by omega) hs
  rw [takeTo, ih]
  dsimp only
  rw [if_pos ht]
theorem z738 {buy : List Int} (h30 : ∀ x ∈ k.batches, x.last ≤ 30) (hl : C.length = k.batches.length) (hbl : b.length = buy.length) (h0 : LeL b buy) : ∀ g, g ≤ buy.length → ¬ LeL (ordG k (ordK k) needs (C, b) g).2 buy →
    takeTo (moreK k buy) (ordK (moreK k buy)) needs (C ++ restL buy b) g = none
  | 0, _, hno => absurd h0 hno
  | g + 1, hg, hno => by
    by_cases h : LeL (ordG k (ordK k) needs (C, b) g).2 buy
    · exact z775 hC hb hB hn h30 hl hbl (by omega) h hno
    · exact z138 (z738 h30 hl hbl h0 g (by omega) h) (by omega)
end
section
variable {k : Kitchen} (hg : KitGood k) {M : List (List Int)} (hM : shapedB (menuB k) M k.days = true) {buy : List Int} (hbuy : buy.length = k.allerg.length)
include hg hM hbuy
theorem z314 : ∀ d, d ≤ M.length → LeL (ordD k M d).2.1 buy → runSt (moreK k buy) M (hiC k) d = some ((ordD k M d).1 ++ restL buy (ordD k M d).2.1, (ordD k M d).2.2)
  | 0, _, _ => by rw [runSt, z1003, restL, hbuy]; simp only [ordD, restL, List.length_replicate, hbuy]
  | d + 1, hd, hle => by
    have h30 : ∀ b ∈ k.batches, b.last ≤ 30 := fun b hb => (hg.batch b hb).2.2.2
    have hMl := z27 hM
    have hdl := hg.days
    obtain ⟨h1, h2, h3, h4, h5, h6⟩ := z255 hg hM d (by omega)
    obtain ⟨c1, _⟩ := z47 (k := k) (day := (d : Int)) (w := (ordD k M d).2.2) h1 k.batches.length
    have c4 := z39 k (d : Int) (ordD k M d).1 (ordD k M d).2.2 k.batches.length
    have hmono : LeL (ordD k M d).2.1 (ordD k M (d + 1)).2.1 := z893 hg hM (by omega) (by omega)
    have ih := z314 d (by omega) (hmono.trans hle)
    have hcl : clrD (moreK k buy) d ((ordD k M d).1 ++ restL buy (ordD k M d).2.1, (ordD k M d).2.2) = ((clrTo k (d : Int) (ordD k M d).1 (ordD k M d).2.2 k.batches.length).1 ++ restL buy (ordD k M d).2.1, (clrTo k (d : Int) (ordD k M d).1 (ordD k M d).2.2 k.batches.length).2) := by
      rw [clrD, z293]
      exact z498 (by omega) (by omega) _ (Nat.le_refl _)
    have ht := z244 (k := k) (needs := needD k M (hiC k) d) (C := (clrTo k (d : Int) (ordD k M d).1 (ordD k M d).2.2 k.batches.length).1) (b := (ordD k M d).2.1) c1 h3 (by omega) (z484 hg hM (by omega)) (buy := buy) h30 (by omega) (by omega) k.allerg.length (by omega) hle
    rw [runSt, ih]
    dsimp only
    rw [hcl]
    dsimp only
    rw [z405]
    change Option.map _ (takeTo (moreK k buy) (ordK (moreK k buy)) (needD k M (hiC k) d) _ k.allerg.length) = _
    rw [ht, z561]
    rfl
theorem z878 {d : Nat} (hd : d < M.length) (hle : LeL (ordD k M d).2.1 buy) (hno : ¬ LeL (ordD k M (d + 1)).2.1 buy) : runSt (moreK k buy) M (hiC k) (d + 1) = none := by
  have h30 : ∀ b ∈ k.batches, b.last ≤ 30 := fun b hb => (hg.batch b hb).2.2.2
  have hMl := z27 hM
  have hdl := hg.days
  obtain ⟨h1, h2, h3, h4, h5, h6⟩ := z255 hg hM d (by omega)
  obtain ⟨c1, _⟩ := z47 (k := k) (day := (d : Int)) (w := (ordD k M d).2.2) h1 k.batches.length
  have c4 := z39 k (d : Int) (ordD k M d).1 (ordD k M d).2.2 k.batches.length
  have ih := z314 hg hM hbuy d (by omega) hle
  have hcl : clrD (moreK k buy) d ((ordD k M d).1 ++ restL buy (ordD k M d).2.1, (ordD k M d).2.2) = ((clrTo k (d : Int) (ordD k M d).1 (ordD k M d).2.2 k.batches.length).1 ++ restL buy (ordD k M d).2.1, (clrTo k (d : Int) (ordD k M d).1 (ordD k M d).2.2 k.batches.length).2) := by
    rw [clrD, z293]
    exact z498 (by omega) (by omega) _ (Nat.le_refl _)
  have ht := z738 (k := k) (needs := needD k M (hiC k) d) (C := (clrTo k (d : Int) (ordD k M d).1 (ordD k M d).2.2 k.batches.length).1) (b := (ordD k M d).2.1) c1 h3 (by omega) (z484 hg hM (by omega)) (buy := buy) h30 (by omega) (by omega) hle k.allerg.length (by omega) hno
  rw [runSt, ih]
  dsimp only
  rw [hcl]
  dsimp only
  rw [z405]
  change Option.map _ (takeTo (moreK k buy) (ordK (moreK k buy)) (needD k M (hiC k) d) _ k.allerg.length) = _
  rw [ht]
  rfl
theorem z545 (h0 : ∀ i : Nat, 0 ≤ getI buy (i : Int)) : ∀ d, d ≤ M.length → ¬ LeL (ordD k M d).2.1 buy → runSt (moreK k buy) M (hiC k) d = none
  | 0, _, hno => by
    refine absurd (fun i => ?_) hno
    rw [ordD, z418]
    exact h0 i
  | d + 1, hd, hno => by
    by_cases h : LeL (ordD k M d).2.1 buy
    · exact z878 hg hM hbuy (by omega) h hno
    · exact z176 (z545 h0 d (by omega) h) (by omega)
theorem z891 (h0 : ∀ i : Nat, 0 ≤ getI buy (i : Int)) : mostK (moreK k buy) M = k.days.length ↔ LeL (orderK k M) buy := by
  have hMl := z27 hM
  have hm := z745 (k := moreK k buy) (M := M) hMl
  change mostK (moreK k buy) M = k.days.length ↔ (runSt (moreK k buy) M (hiC k) M.length).isSome = true at hm
  rw [hm]
  constructor
  · intro h
    by_cases hle : LeL (orderK k M) buy
    · exact hle
    · rw [z545 hg hM hbuy h0 M.length (Nat.le_refl _) hle] at h
      cases h
  · intro hle
    rw [z314 hg hM hbuy M.length (Nat.le_refl _) hle]
    rfl
end
theorem z892 {k : Kitchen} {o : List Nat} {needs : List Int} {a : List Int × List Int} {B N : Int} (h : AmtOk a.1) (hb : BuyOk B a.2) (hB : 0 ≤ B) (hN : 0 ≤ N) (hn : ∀ x ∈ needs, 0 ≤ x ∧ x ≤ N) (g : Nat) :
    AmtOk (ordG k o needs a g).1 ∧ BuyOk (B + N) (ordG k o needs a g).2 ∧ ∀ i : Nat, g ≤ i → getI (ordG k o needs a g).2 (i : Int) = getI a.2 (i : Int) := by
  induction g with
  | zero => exact ⟨h, fun x hx => by have := hb x hx; omega, fun _ _ => rfl⟩
  | succ g ih =>
    obtain ⟨h1, h3, h5⟩ := ih
    have hng : 0 ≤ getI needs (g : Int) ∧ getI needs (g : Int) ≤ N := z80 hn ⟨Int.le_refl 0, hN⟩ _
    have ht := z173 (k := k) (good := g) o (a := ((ordG k o needs a g).1, getI needs (g : Int))) h1 hng.1
    change AmtOk (takeG k o g (ordG k o needs a g).1 (getI needs (g : Int))).1 ∧ (takeG k o g (ordG k o needs a g).1 (getI needs (g : Int))).1.length = (ordG k o needs a g).1.length ∧ 0 ≤ (takeG k o g (ordG k o needs a g).1 (getI needs (g : Int))).2 ∧ (takeG k o g (ordG k o needs a g).1 (getI needs (g : Int))).2 ≤ getI needs (g : Int) at ht
    obtain ⟨t1, t2, t3, t4⟩ := ht
    have hbg : 0 ≤ getI a.2 (g : Int) ∧ getI a.2 (g : Int) ≤ B := z80 hb ⟨Int.le_refl 0, hB⟩ _
    refine ⟨t1, ?_, fun i hi => ?_⟩
    · intro x hx
      rw [ordG] at hx
      rcases List.mem_or_eq_of_mem_set hx with hx | hx
      · exact h3 x hx
      · rw [hx, h5 g (Nat.le_refl _)]
        omega
    · rw [ordG]
      dsimp only
      rw [z105 (by omega)]
      exact h5 i (by omega)
theorem z562 {k : Kitchen} (hg : KitGood k) {M : List (List Int)} (hM : shapedB (menuB k) M k.days = true) : ∀ d, d ≤ M.length → BuyOk (1500000 * d) (ordD k M d).2.1
  | 0, _ => fun x hx => by rw [ordD] at hx; have := List.eq_of_mem_replicate hx; omega
  | d + 1, hd => by
    have ih := z562 hg hM d (by omega)
    obtain ⟨h1, _⟩ := z255 hg hM d (by omega)
    obtain ⟨r, hr⟩ : ∃ r, M[d]? = some r := ⟨_, List.getElem?_eq_getElem (by omega)⟩
    obtain ⟨_, _, hdo⟩ := z154 hg hM (z837 hg) hr
    have hnd : needD k M (hiC k) d = needL k r (hiC k d) := by rw [needD, List.getD_eq_getElem?_getD, hr]; rfl
    obtain ⟨c1, _⟩ := z47 (k := k) (day := (d : Int)) (w := (ordD k M d).2.2) h1 k.batches.length
    have hn : ∀ x ∈ needD k M (hiC k) d, 0 ≤ x ∧ x ≤ 1500000 := fun x hx => by
      rw [hnd] at hx
      obtain ⟨g, _, rfl⟩ := List.mem_map.1 hx
      have h1 : 0 ≤ needG k r (hiC k d) g r.length ∧ needG k r (hiC k d) g r.length ≤ 500000 * (r.length : Int) := z129 hg hdo g r.length (Nat.le_refl _)
      have h2 : r.length ≤ 3 := hdo.len
      change 0 ≤ needG k r (hiC k d) g r.length ∧ needG k r (hiC k d) g r.length ≤ 1500000
      omega
    have := (z892 (k := k) (o := ordK k) (a := ((clrTo k (d : Int) (ordD k M d).1 (ordD k M d).2.2 k.batches.length).1, (ordD k M d).2.1)) c1 ih (by omega) (by decide : (0 : Int) ≤ 1500000) hn k.allerg.length).2.1
    rw [z561]
    dsimp only
    intro x hx
    have := this x hx
    push_cast
    omega
theorem z824 {k : Kitchen} (hg : KitGood k) {M : List (List Int)} (hM : shapedB (menuB k) M k.days = true) (i : Nat) : 0 ≤ getI (orderK k M) (i : Int) ∧ getI (orderK k M) (i : Int) ≤ 9000000 := by
  have h := z562 hg hM M.length (Nat.le_refl _)
  have hMl := z27 hM
  have hd := hg.days
  have : 0 ≤ getI (orderK k M) (i : Int) ∧ getI (orderK k M) (i : Int) ≤ 1500000 * (M.length : Int) := z80 h ⟨Int.le_refl 0, by omega⟩ _
  omega
theorem z902 {k : Kitchen} (hg : KitGood k) {buy : List Int} (hb : buy.length = k.allerg.length) (h : ∀ i : Nat, 0 ≤ getI buy (i : Int) ∧ getI buy (i : Int) ≤ 9000000) : KitWide (moreK k buy) := by
  have hgd := hg.goods
  have hbt := hg.batches
  refine ⟨hg.goods, hg.allerg, by rw [z293]; omega, fun b hbm => ?_, hg.dishes, hg.needs, hg.days, hg.groups⟩
  rcases List.mem_append.1 hbm with hbm | hbm
  · exact (hg.wide.batch b hbm)
  · obtain ⟨g, hgm, rfl⟩ := List.mem_map.1 hbm
    have := List.mem_range.1 hgm
    refine ⟨⟨by dsimp only; omega, ?_⟩, h g, by dsimp only; omega⟩
    change (g : Int) < k.allerg.length
    omega
end Go.Ab
/- What a function makes of its own, told as a deep value. -/
namespace Go.Ab
open Go.RowKit
theorem FnG.deep {P : Program} {f : FuncId} {args : List DV} {r : AV} {m1 : List Blk} {d : DV} (h : FnG P f [] [] (args.map AV.d) r m1) (hr : reify (m1.map some) Ab.deep r = some d) : Fn P f args d :=
  ⟨h.enters, fun w own vs hb hh hd => (h.calls (ltU w.heap.size) w own (fun _ => none) vs hb (fun _ h => h)
      ⟨fun n b h => by simp at h, fun n h => by simp at h, fun n k b z l c z' l' c' h => by simp at h, fun n b z l c h => by simp at h⟩
      (hh.less fun b hb => hb.elim id fun ⟨_, _, _, _, h⟩ => by simp at h) (by simpa using hd.1) (fun i x v hx hv => by
        simp only [List.getElem?_map, Option.map_eq_some_iff] at hx
        obtain ⟨y, hy, rfl⟩ := hx
        refine .d ((hd.2 i y v hy hv).goes fun b o u h1 h2 => ⟨fun hc => h1 (hc.elim id fun ⟨_, _, _, _, h⟩ => by simp at h), h2⟩))).mono fun en w' hq => by
    obtain ⟨v, μ1, he, hv, hm, hk, _⟩ := hq
    exact ⟨v, he, z58 hm own (fun b hb => .inl hb) (fun _ => True) (fun n b z l c _ hμ => (hm.base n b z l c hμ).2.2) Ab.deep r v d hv hr (fun _ _ => trivial) (.inl fun _ _ _ _ _ _ => trivial), hk.keep.below.to⟩⟩
end Go.Ab
namespace Go.Ab
open Go.RowKit Go.Proofs
set_option maxHeartbeats 16000000
set_option maxRecDepth 20000
attribute [local irreducible] WalkL Walk
theorem z1131 (k : Kitchen) (hg : KitGood k) (no : Int) : FnS Try.prog 74 [.agg k.cells, .i no] 3 1 (intRows (suitL k no)) := by
  have hd := hg.dishes
  have h34 := fun (n : Nat) hn => z1104 k hg n no hn
  unfold suitL
  rw [Kitchen.cells] at h34
  refine z229 23 Try.call74 Try.func74 rfl (by decide) fun J => ?_
  simp (maxSteps := 4000000) only [go_sem, St.start, Try.ntmps74, Try.results74, Kitchen.cells]
  repeat (first | refine nx ?_ | (refine z10 fun K hK => ?_; simp (maxSteps := 4000000) only [go_sem]; refine hK _ ?_; clear hK K))
  refine z15 (fun (i : Nat) => [(6, .d (.i (i : Int))), (5, .own 21)]) (fun i => [(21, some (.arr 3 1 (intRows (suitTo7 k no i))))]) (fun i => i ≤ k.dishes.length) (fun i => k.dishes.length - i) 0 ?_ (Nat.zero_le _) ?_
  · simp (maxSteps := 4000000) only [go_sem]
    refine z13 [21] ?_ ?_ rfl rfl <;> simp [lessT, lessM, lessB, AV.less, suitTo7, intRows]
  · intro i hi
    simp (maxSteps := 4000000) only [go_sem]
    repeat (first | refine nx ?_ | (refine z10 fun K hK => ?_; simp (maxSteps := 4000000) only [go_sem]; refine hK _ ?_; clear hK K))
    refine z14 rfl (fun hb => ?_) (fun hb => ?_)
    · have hlt : i < k.dishes.length := by simpa using hb
      have hw : IntKind.i64.wrap ((i : Int) + 1) = ((i + 1 : Nat) : Int) := by rw [z16 (by omega)]; simp
      have h34i := h34 i hlt
      have hl := z120 k no i
      obtain ⟨L, hL⟩ : ∃ L, L = suitTo7 k no i := ⟨_, rfl⟩
      rw [← hL] at hl ⊢
      have hn : L.length + 1 ≤ 549755813888 := by omega
      cases q : suitsB k (i : Int) no
      · rw [q] at h34i
        have e := z536 q
        rw [← hL] at e
        repeat (first | refine z12 rfl ?_ | refine z11 rfl ?_ | refine nx ?_ | (refine z10 fun K hK => ?_; simp (maxSteps := 4000000) only [go_sem, hw]; (repeat (first | (refine ⟨_, .lent (hf := h34i) (hd := rfl) (hr := rfl), ?_⟩; simp (maxSteps := 4000000) only [go_sem, hw]) | (refine ⟨_, .given (hf := h34i) (hd := rfl) (ha := rfl), ?_⟩; simp (maxSteps := 4000000) only [go_sem, hw]))); refine hK _ ?_; clear hK K))
        refine ⟨rfl, i + 1, ?_, hlt, by omega⟩
        rw [e]
        refine z13 [] ?_ ?_ rfl rfl <;> simp [lessT, lessM, lessB, AV.less]
        all_goals first | done | rfl | trace_state
      · rw [q] at h34i
        have e := z397 q
        rw [← hL] at e
        have s1 : intRows L ++ [[.i (i : Int)]] = intRows (suitTo7 k no (i + 1)) := by rw [e]; simp [intRows]
        repeat (first | refine z12 rfl ?_ | refine z11 rfl ?_ | refine nx ?_ | (refine z10 fun K hK => ?_; simp (maxSteps := 4000000) only [go_sem, hn, s1, hw]; (repeat (first | (refine ⟨_, .lent (hf := h34i) (hd := rfl) (hr := rfl), ?_⟩; simp (maxSteps := 4000000) only [go_sem, hn, s1, hw]) | (refine ⟨_, .given (hf := h34i) (hd := rfl) (ha := rfl), ?_⟩; simp (maxSteps := 4000000) only [go_sem, hn, s1, hw]))); refine hK _ ?_; clear hK K))
        refine ⟨rfl, i + 1, ?_, hlt, by omega⟩
        refine z13 [] ?_ ?_ rfl rfl <;> simp [lessT, lessM, lessB, AV.less]
        all_goals first | done | rfl | trace_state
    · have he : i = k.dishes.length := by (have : ¬ i < k.dishes.length := by simpa using hb); omega
      subst he
      repeat (first | refine nx ?_ | (refine z10 fun K hK => ?_; simp (maxSteps := 4000000) only [go_sem]; refine hK _ ?_; clear hK K))
      simp (maxSteps := 4000000) only [go_sem]
end Go.Ab
namespace Go.Ab
open Go.RowKit Go.Proofs
set_option maxHeartbeats 16000000
set_option maxRecDepth 20000
attribute [local irreducible] WalkL Walk
theorem z1050 (k : Kitchen) (hs : KitSmall k) : FnG Try.prog 14 [] [] (List.map AV.d [.agg k.cells]) (.agg [.own 0, .own 1, .own 2, .own 3])
    [.arr 3 1 (intRows k.allerg), .arr 47 3 (batRows k.batches), .arr 72 1 (dishRows k.dishes), .arr 58 1 (dayRows k.days)] := by
  have a1 := hs.allerg
  have a2 := hs.batches
  have a3 := hs.dishes
  have a5 := hs.days
  have e1 : k.allerg.length ≤ 549755813888 := by omega
  have e2 : k.batches.length ≤ 549755813888 := by omega
  have hcl : k.cells.length = 4 := rfl
  have k0 : k.cells[0]? = some (.sl (intRows k.allerg)) := rfl
  have k1 : k.cells[1]? = some (.sl (batRows k.batches)) := rfl
  have k2 : k.cells[2]? = some (.sl (dishRows k.dishes)) := rfl
  have k3 : k.cells[3]? = some (.sl (dayRows k.days)) := rfl
  have hct : k.cells.take 4 = k.cells := rfl
  have hh : headIs 1 (intRows k.allerg) = true := by cases k.allerg <;> rfl
  refine z64 56 Try.call14 Try.func14 rfl (by decide) [6, 10, 34, 53] [] (by simp only [List.length_cons, List.length_nil]; decide) (by kernel_rfl) fun J => ?_
  simp (maxSteps := 4000000) only [go_sem, St.startG, Try.ntmps14, Try.results14, List.map_cons, List.map_nil, List.range_succ,  Kitchen.cells]
  repeat (first | refine nx ?_ | (refine z10 fun K hK => ?_; simp (maxSteps := 4000000) only [go_sem]; refine hK _ ?_; clear hK K))
  refine z23 [1] ?_
  simp (maxSteps := 4000000) only [go_sem]
  refine z514 (by kernel_rfl) (by kernel_rfl) (fun m => ⟨[.d (.agg k.cells), .d (.ptr k.cells 0), .box 2 0, bif m 9 then .undef else .box 3 0, .undef, .undef,
      bif m 0 then .undef else (bif m 3 then .own 6 else .undef), sel (m 1) (.ptr k.cells 0), sel (m 2) (.sl (intRows k.allerg)), bif m 3 then .undef else .own 6,
      bif m 4 then .undef else (bif m 7 then .own 10 else .undef), sel (m 5) (.ptr k.cells 1), sel (m 6) (.sl (batRows k.batches)), bif m 7 then .undef else .own 10,
      bif m 8 then .undef else .agg [.own 6, .own 10, .nil, .nil]] ++ List.replicate 41 .undef,
    [none, none, some (.box [.nil, .nil, .nil, .nil]), stB (m 9) (m 10) (.box [.nil, .nil, .nil, .nil]) (.box [.own 6, .own 10, .nil, .nil]), none, none,
      stB (m 0) (m 3) (.arr 3 1 []) (.arr 3 1 (intRows k.allerg)), none, none, none, stB (m 4) (m 7) (.arr 47 3 []) (.arr 47 3 (batRows k.batches))] ++ List.replicate 45 none⟩) ?_ ?_ ?_
  · simp (maxSteps := 4000000) only [go_sem]
    rfl
  · refine ⟨?_, ?_, ?_, ?_, ?_, ?_, ?_, ?_, ?_, ?_, ?_, trivial⟩
    all_goals
      intro m hm hd hc
      simp only [closedM, depsM, Region.binds, true_and, and_true, Nat.zero_add, Nat.reduceAdd, reduceCtorEq, forall_const] at hc hd
      cases h0 : m 0 <;> cases h3 : m 3 <;> cases h4 : m 4 <;> cases h7 : m 7 <;> (try simp [h0, h3, h4, h7] at hc hd hm)
    all_goals
      cases h8 : m 8 <;> cases h9 : m 9 <;> cases h10 : m 10 <;> (try simp [h0, h3, h4, h7, h8, h9, h10] at hc hd hm)
    all_goals
      refine ⟨rfl, rfl, ?_⟩
      simp (maxSteps := 4000000) only [go_sem, hm, hd, h0, h3, h4, h7, h8, h9, h10, hcl, hct, k0, k1, e1, e2, hh, z624, List.nil_append, List.length_nil, Nat.zero_add]
  · simp (maxSteps := 4000000) only [go_sem]
    repeat (first | refine nx ?_ | (refine z10 fun K hK => ?_; simp (maxSteps := 4000000) only [go_sem]; refine hK _ ?_; clear hK K))
    refine z15 (fun (i : Nat) => [(4, .d (.i (i : Int)))]) (fun i => [(3, some (.box [.own 6, .own 10, .own 34, .nil])), (34, some (.arr 72 1 (dishRows (k.dishes.take i))))]) (fun i => i ≤ k.dishes.length) (fun i => k.dishes.length - i) 0 ?_ (Nat.zero_le _) ?_
    · simp (maxSteps := 4000000) only [go_sem]
      refine z13 [34] ?_ ?_ rfl rfl <;> simp [lessT, lessM, lessB, AV.less, dishRows]
    · intro i hi
      simp (maxSteps := 4000000) only [go_sem]
      repeat (first | refine nx ?_ | (refine z10 fun K hK => ?_; simp (maxSteps := 4000000) only [go_sem, k2]; refine hK _ ?_; clear hK K))
      refine z14 rfl (fun hb => ?_) (fun hb => ?_)
      · have hlt : i < k.dishes.length := by simpa using hb
        have hw : IntKind.i64.wrap ((i : Int) + 1) = ((i + 1 : Nat) : Int) := by rw [z16 (by omega)]; simp
        obtain ⟨x, hx⟩ : ∃ x, k.dishes[i]? = some x := ⟨_, List.getElem?_eq_getElem hlt⟩
        have g1 := z108 hx
        rw [Dish.row] at g1
        have hni : ¬ ((i : Int) < 0) := by omega
        have hxn := hs.needs x (List.mem_of_getElem? hx)
        have e3 : x.needs.length ≤ 549755813888 := by omega
        have hh2 : headIs 1 (intRows x.needs) = true := by cases x.needs <;> rfl
        have hlt2 : (k.dishes.take i).length + 1 ≤ 549755813888 := by rw [List.length_take]; omega
        have htk : dishRows (k.dishes.take i) ++ [[.sl (intRows x.needs)]] = dishRows (k.dishes.take (i + 1)) := by rw [List.take_add_one, hx]; simp [dishRows, Dish.row]
        repeat (first | refine nx ?_ | (refine z10 fun K hK => ?_; simp (maxSteps := 4000000) only [go_sem]; refine hK _ ?_; clear hK K))
        refine z85 [31] (by kernel_rfl) (by kernel_rfl) fun K hK => ?_
        simp (maxSteps := 4000000) only [go_sem, k2, g1, hni, e3, hh2, hlt2, htk, List.nil_append, List.length_nil, Nat.zero_add]
        refine ⟨by kernel_rfl, hK _ ?_⟩
        clear hK K
        repeat (first | refine nx ?_ | (refine z10 fun K hK => ?_; simp (maxSteps := 4000000) only [go_sem, hw]; refine hK _ ?_; clear hK K))
        refine ⟨rfl, i + 1, ?_, hlt, by omega⟩
        refine z13 [] ?_ ?_ rfl rfl <;> simp [lessT, lessM, lessB, AV.less]
        all_goals first | done | rfl | trace_state
      · have he : i = k.dishes.length := by (have : ¬ i < k.dishes.length := by simpa using hb); omega
        subst he
        rw [List.take_length]
        repeat (first | refine nx ?_ | (refine z10 fun K hK => ?_; simp (maxSteps := 4000000) only [go_sem]; refine hK _ ?_; clear hK K))
        refine z15 (fun (i : Nat) => [(5, .d (.i (i : Int)))]) (fun i => [(3, some (.box [.own 6, .own 10, .own 34, .own 53])), (53, some (.arr 58 1 (dayRows (k.days.take i))))]) (fun i => i ≤ k.days.length) (fun i => k.days.length - i) 0 ?_ (Nat.zero_le _) ?_
        · simp (maxSteps := 4000000) only [go_sem]
          refine z13 [53] ?_ ?_ rfl rfl <;> simp [lessT, lessM, lessB, AV.less, dayRows]
        · intro i hi
          simp (maxSteps := 4000000) only [go_sem]
          repeat (first | refine nx ?_ | (refine z10 fun K hK => ?_; simp (maxSteps := 4000000) only [go_sem, k3]; refine hK _ ?_; clear hK K))
          refine z14 rfl (fun hb => ?_) (fun hb => ?_)
          · have hlt : i < k.days.length := by simpa using hb
            have hw : IntKind.i64.wrap ((i : Int) + 1) = ((i + 1 : Nat) : Int) := by rw [z16 (by omega)]; simp
            obtain ⟨x, hx⟩ : ∃ x, k.days[i]? = some x := ⟨_, List.getElem?_eq_getElem hlt⟩
            have g1 := z69 hx
            have hni : ¬ ((i : Int) < 0) := by omega
            have hxn := hs.groups x (List.mem_of_getElem? hx)
            have e3 : x.length ≤ 549755813888 := by omega
            have hh2 : headIs 3 (dinRows x) = true := by cases x <;> rfl
            have hlt2 : (k.days.take i).length + 1 ≤ 549755813888 := by rw [List.length_take]; omega
            have htk : dayRows (k.days.take i) ++ [[.sl (dinRows x)]] = dayRows (k.days.take (i + 1)) := by rw [List.take_add_one, hx]; simp [dayRows]
            repeat (first | refine nx ?_ | (refine z10 fun K hK => ?_; simp (maxSteps := 4000000) only [go_sem]; refine hK _ ?_; clear hK K))
            refine z85 [51] (by kernel_rfl) (by kernel_rfl) fun K hK => ?_
            simp (maxSteps := 4000000) only [go_sem, k3, g1, hni, e3, hh2, hlt2, htk, List.nil_append, List.length_nil, Nat.zero_add]
            refine ⟨by kernel_rfl, hK _ ?_⟩
            clear hK K
            repeat (first | refine nx ?_ | (refine z10 fun K hK => ?_; simp (maxSteps := 4000000) only [go_sem, hw]; refine hK _ ?_; clear hK K))
            refine ⟨rfl, i + 1, ?_, hlt, by omega⟩
            refine z13 [] ?_ ?_ rfl rfl <;> simp [lessT, lessM, lessB, AV.less]
            all_goals first | done | rfl | trace_state
          · have he : i = k.days.length := by (have : ¬ i < k.days.length := by simpa using hb); omega
            subst he
            rw [List.take_length]
            repeat (first | refine nx ?_ | (refine z10 fun K hK => ?_; simp (maxSteps := 4000000) only [go_sem]; refine hK _ ?_; clear hK K))
            simp (maxSteps := 4000000) only [go_sem, retG]
end Go.Ab
namespace Go.Ab
open Go.RowKit Go.Proofs
set_option maxHeartbeats 16000000
set_option maxRecDepth 20000
attribute [local irreducible] WalkL Walk
theorem z1157 (k : Kitchen) (hs : KitSmall k) : Fn Try.prog 14 [.agg k.cells] (.agg k.cells) := (z1050 k hs).deep rfl
theorem z1155 (M : List (List Int)) (hM : M.length < 2 ^ 30) (hMr : ∀ r ∈ M, r.length < 2 ^ 30) : Fn Try.prog 18 [.sl (listRows M)] (.sl (listRows M)) := by
  refine z18 21 Try.call18 Try.func18 rfl (by decide) fun J => ?_
  simp (maxSteps := 4000000) only [go_sem, St.start, Try.ntmps18, Try.results18]
  repeat (first | refine nx ?_ | (refine z10 fun K hK => ?_; simp (maxSteps := 4000000) only [go_sem]; refine hK _ ?_; clear hK K))
  refine z15 (fun (i : Nat) => [(4, .d (.i (i : Int))), (3, .own 19)]) (fun i => [(19, some (.arr 22 1 (listRows (M.take i))))]) (fun i => i ≤ M.length) (fun i => M.length - i) 0 ?_ (Nat.zero_le _) ?_
  · simp (maxSteps := 4000000) only [go_sem]
    refine z13 [19] ?_ ?_ rfl rfl <;> simp [lessT, lessM, lessB, AV.less, listRows]
  · intro i hi
    simp (maxSteps := 4000000) only [go_sem]
    repeat (first | refine nx ?_ | (refine z10 fun K hK => ?_; simp (maxSteps := 4000000) only [go_sem, z20]; refine hK _ ?_; clear hK K))
    refine z14 rfl (fun hb => ?_) (fun hb => ?_)
    · have hlt : i < M.length := by simpa using hb
      have hw : IntKind.i64.wrap ((i : Int) + 1) = ((i + 1 : Nat) : Int) := by rw [z16 (by omega)]; simp
      obtain ⟨x, hx⟩ : ∃ x, M[i]? = some x := ⟨_, List.getElem?_eq_getElem hlt⟩
      have g1 := z40 hx
      have hni : ¬ ((i : Int) < 0) := by omega
      have hxn := hMr x (List.mem_of_getElem? hx)
      have e3 : x.length ≤ 549755813888 := by omega
      have hh2 : headIs 1 (intRows x) = true := by cases x <;> rfl
      have hlt2 : (M.take i).length + 1 ≤ 549755813888 := by rw [List.length_take]; omega
      have htk : listRows (M.take i) ++ [[.sl (intRows x)]] = listRows (M.take (i + 1)) := by rw [List.take_add_one, hx]; simp [listRows]
      repeat (first | refine nx ?_ | (refine z10 fun K hK => ?_; simp (maxSteps := 4000000) only [go_sem, g1, hni, e3, hh2, hlt2, htk, z20, z19, List.nil_append, List.length_nil, Nat.zero_add, hw]; refine hK _ ?_; clear hK K))
      refine ⟨rfl, i + 1, ?_, hlt, by omega⟩
      refine z13 [] ?_ ?_ rfl rfl <;> simp [lessT, lessM, lessB, AV.less]
      all_goals first | done | rfl | trace_state
    · have he : i = M.length := by (have : ¬ i < M.length := by simpa using hb); omega
      subst he
      rw [List.take_length]
      repeat (first | refine nx ?_ | (refine z10 fun K hK => ?_; simp (maxSteps := 4000000) only [go_sem]; refine hK _ ?_; clear hK K))
      simp (maxSteps := 4000000) only [go_sem]
end Go.Ab
namespace Go.Ab
open Go.RowKit Go.Proofs
set_option maxHeartbeats 16000000
set_option maxRecDepth 20000
attribute [local irreducible] WalkL Walk
theorem z1151 (k : Kitchen) (buy : List Int) (hs : KitSmall k) (hb1 : k.batches.length < 2 ^ 20) (hb2 : buy.length < 2 ^ 20) : Fn Try.prog 31 [.agg k.cells, .sl (intRows buy)] (.agg (moreK k buy).cells) := by
  have h11 := z1050 k hs
  rw [Kitchen.cells] at h11 ⊢
  rw [Kitchen.cells]
  obtain ⟨F, hF⟩ : ∃ F : Nat → List (List DV), F = fun i => batRows (k.batches ++ (boughtB buy).take i) := ⟨_, rfl⟩
  have hF0 : F 0 = batRows k.batches := by rw [hF]; simp
  have hFl : ∀ i, i ≤ buy.length → (F i).length ≤ k.batches.length + i := fun i hi => by rw [hF]; simp [z356]; omega
  have hFs : ∀ i, i < buy.length → F i ++ [[.i (i : Int), .i (getI buy (i : Int)), .i 30]] = F (i + 1) := fun i hi => by
    have hx : (boughtB buy)[i]? = some ⟨(i : Int), getI buy (i : Int), 30⟩ := by
      simp [boughtB, hi]
    rw [hF]
    simp only
    rw [List.take_add_one, hx]
    simp [batRows, Batch.row]
  have hFe : F buy.length = batRows (moreK k buy).batches := by
    rw [hF]
    simp only
    rw [List.take_of_length_le (by simp [z423]), moreK]
  have e3 : (moreK k buy).allerg = k.allerg := rfl
  have e4 : (moreK k buy).dishes = k.dishes := rfl
  have e5 : (moreK k buy).days = k.days := rfl
  rw [← hFe, e3, e4, e5]
  rw [← hF0] at h11
  refine z18 27 Try.call31 Try.func31 rfl (by decide) fun J => ?_
  simp (maxSteps := 4000000) only [go_sem, St.start, Try.ntmps31, Try.results31]
  repeat (first | refine nx ?_ | (refine z10 fun K hK => ?_; simp (maxSteps := 4000000) only [go_sem]; refine hK _ ?_; clear hK K))
  refine z10 fun K hK => ?_
  simp (maxSteps := 4000000) only [go_sem, hF0]
  rw [← hF0]
  refine ⟨_, .made (news := [0, 1, 3, 26]) (hf := h11) (hd := rfl) (hn := by decide) (hl := rfl) (hnew := rfl) (hx := rfl), ?_⟩
  simp (maxSteps := 4000000) only [go_sem, List.map_cons, List.map_nil]
  refine hK _ ?_
  clear hK K
  repeat (first | refine nx ?_ | (refine z10 fun K hK => ?_; simp (maxSteps := 4000000) only [go_sem]; refine hK _ ?_; clear hK K))
  refine z67 [7, 8] ?_ ?_
  · simp (maxSteps := 4000000) only [go_sem]
    refine z13 [] ?_ ?_ rfl rfl <;> simp [lessT, lessM, lessB, AV.less]
  simp (maxSteps := 4000000) only [go_sem]
  refine z15 (fun (i : Nat) => [(6, .d (.i (i : Int)))]) (fun i => [(1, some (.arr 47 3 (F i)))]) (fun i => i ≤ buy.length) (fun i => buy.length - i) 0 ?_ (Nat.zero_le _) ?_
  · simp (maxSteps := 4000000) only [go_sem]
    refine z13 [] ?_ ?_ rfl rfl <;> simp [lessT, lessM, lessB, AV.less]
    all_goals first | done | rfl | trace_state
  · intro i hi
    simp (maxSteps := 4000000) only [go_sem]
    repeat (first | refine nx ?_ | (refine z10 fun K hK => ?_; simp (maxSteps := 4000000) only [go_sem]; refine hK _ ?_; clear hK K))
    refine z14 rfl (fun hb => ?_) (fun hb => ?_)
    · have hlt : i < buy.length := by simpa using hb
      have hw : IntKind.i64.wrap ((i : Int) + 1) = ((i + 1 : Nat) : Int) := by rw [z16 (by omega)]; simp
      have g1 := z21 hlt
      have hni : ¬ ((i : Int) < 0) := by omega
      have hl1 := hFl i hi
      have hl2 : (F i).length ≤ 549755813887 := by omega
      have hs1 := hFs i hlt
      repeat (first | refine nx ?_ | (refine z10 fun K hK => ?_; simp (maxSteps := 4000000) only [go_sem]; refine hK _ ?_; clear hK K))
      refine z275 (by kernel_rfl) (by kernel_rfl) fun K hK => ?_
      simp (maxSteps := 4000000) only [go_sem, g1, hni, hl2, hs1]
      refine ⟨by kernel_rfl, hK _ ?_⟩
      clear hK K
      repeat (first | refine nx ?_ | (refine z10 fun K hK => ?_; simp (maxSteps := 4000000) only [go_sem, hw]; refine hK _ ?_; clear hK K))
      refine ⟨rfl, i + 1, ?_, hlt, by omega⟩
      refine z13 [] ?_ ?_ rfl rfl <;> simp [lessT, lessM, lessB, AV.less]
      all_goals first | done | rfl | trace_state
    · have he : i = buy.length := by (have : ¬ i < buy.length := by simpa using hb); omega
      subst he
      repeat (first | refine nx ?_ | (refine z10 fun K hK => ?_; simp (maxSteps := 4000000) only [go_sem]; refine hK _ ?_; clear hK K))
      simp (maxSteps := 4000000) only [go_sem]
end Go.Ab
