/- A walk engine over abstract states, and the contracts of the functions that the statement reaches: part 6. -/
import Derived.Test.YtnlodbjgmfmlnaaGreatWe
set_option linter.unusedVariables false
set_option linter.unusedSimpArgs false
set_option linter.unnecessarySimpa false
namespace Go.Ab
open Go.RowKit Go.Proofs
set_option maxHeartbeats 16000000
set_option maxRecDepth 20000
attribute [local irreducible] WalkL Walk
theorem zf18 (s : Supply) (T : List (Int × Int)) (hs : SuppSmall s) (hTl : T.length < 2 ^ 30) :
    Fn Tryz.prog 18 [.agg s.cells, .sl (tripRows T)] (.tup [.i (lastsP6 s T).1, .i (lastsP6 s T).2.1, .bool (lastsP6 s T).2.2.1, .i (lastsP6 s T).2.2.2]) := by
  have h56 := zf56 s T hs hTl
  rw [Supply.cells] at h56
  unfold lastsP6
  by_cases hz : openE6 s T = 0
  · rw [if_pos hz]
    rw [hz] at h56
    obtain ⟨h0, hb⟩ := openE6_zero.1 hz
    have hT := trips_good hb
    obtain ⟨_, _, _, r4⟩ := store_good h0
    have ha := zf60 s T s.use.hi h0 hs hT (by omega)
    have hb := zf60 s T s.use.lo h0 hs hT (by omega)
    rw [Supply.cells] at ha hb
    refine fn_walk 38 Tryz.call18 Tryz.func18 rfl (by decide) fun J => ?_
    simp (maxSteps := 4000000) only [go_sem, St.start, Tryz.ntmps18, Tryz.results18, Supply.cells]
    repeat (first | refine walkL_true rfl ?_ | refine walkL_false rfl ?_ | refine walkL_seq ?_ | refine walkL_skip ?_ | refine walkL_block ?_ | (refine walkL_region fun K hK => ?_; simp (maxSteps := 4000000) only [go_sem]; (repeat (first | (refine ⟨_, .lent (hf := h56) (hd := rfl) (hr := rfl), ?_⟩; simp (maxSteps := 4000000) only [go_sem]) | (refine ⟨_, .lent (hf := ha) (hd := rfl) (hr := rfl), ?_⟩; simp (maxSteps := 4000000) only [go_sem]) | (refine ⟨_, .lent (hf := hb) (hd := rfl) (hr := rfl), ?_⟩; simp (maxSteps := 4000000) only [go_sem]) | (refine ⟨_, .given (hf := h56) (hd := rfl) (ha := rfl), ?_⟩; simp (maxSteps := 4000000) only [go_sem]) | (refine ⟨_, .given (hf := ha) (hd := rfl) (ha := rfl), ?_⟩; simp (maxSteps := 4000000) only [go_sem]) | (refine ⟨_, .given (hf := hb) (hd := rfl) (ha := rfl), ?_⟩; simp (maxSteps := 4000000) only [go_sem]))); refine hK _ ?_; clear hK K) | refine walkL_nil ?_ | refine walkL_ret ?_ | refine walkL_exit ?_ | refine blockA_here ?_ | refine blockA_other rfl ?_ | refine blockA_ret ?_ | refine blockA_normal ?_ | refine thenA_ret ?_ | refine thenA_exit ?_ | refine thenA_normal ?_)
    simp (maxSteps := 4000000) only [go_sem]
  · rw [if_neg hz]
    have hz2 : (openE6 s T != 0) = true := by simpa using hz
    obtain ⟨e, he⟩ : ∃ e, e = openE6 s T := ⟨_, rfl⟩
    rw [← he] at h56 hz2 ⊢
    refine fn_walk 38 Tryz.call18 Tryz.func18 rfl (by decide) fun J => ?_
    simp (maxSteps := 4000000) only [go_sem, St.start, Tryz.ntmps18, Tryz.results18, Supply.cells]
    repeat (first | refine walkL_true rfl ?_ | refine walkL_false rfl ?_ | refine walkL_seq ?_ | refine walkL_skip ?_ | refine walkL_block ?_ | (refine walkL_region fun K hK => ?_; simp (maxSteps := 4000000) only [go_sem, hz2]; (repeat (first | (refine ⟨_, .lent (hf := h56) (hd := rfl) (hr := rfl), ?_⟩; simp (maxSteps := 4000000) only [go_sem, hz2]) | (refine ⟨_, .given (hf := h56) (hd := rfl) (ha := rfl), ?_⟩; simp (maxSteps := 4000000) only [go_sem, hz2]))); refine hK _ ?_; clear hK K) | refine walkL_nil ?_ | refine walkL_ret ?_ | refine walkL_exit ?_ | refine blockA_here ?_ | refine blockA_other rfl ?_ | refine blockA_ret ?_ | refine blockA_normal ?_ | refine thenA_ret ?_ | refine thenA_exit ?_ | refine thenA_normal ?_)
    simp (maxSteps := 4000000) only [go_sem]
theorem rowQ_succ (f : Nat → Int) (i : Nat) : rowQ f (i + 1) (fun _ => true) = rowQ f i (fun _ => true) ++ [f i] := by simp [rowQ, List.range_succ]
theorem zf15 (s : Supply) (T : List (Int × Int)) (U : List Int) (hs : SuppSmall s) (hTl : T.length < 2 ^ 30) (hUl : U.length < 2 ^ 30) :
    Fn Tryz.prog 15 [.agg s.cells, .sl (tripRows T), .sl (intRows U)] (.tup [.sl (if stocksE s T U = 0 then intRows (stocksL s T U) else []), .i (stocksE s T U)]) := by
  have h56 := zf56 s T hs hTl
  rw [Supply.cells] at h56
  unfold stocksE
  by_cases hz : openE6 s T = 0
  · rw [if_pos hz]
    rw [hz] at h56
    obtain ⟨h0, hb⟩ := openE6_zero.1 hz
    have hT := trips_good hb
    have h6 := small6 h0
    have hH := h6.hours
    obtain ⟨hg, hsi, hpn, _⟩ := look_all (supp_look h0)
    have hF := hg.scen
    have h00 : s.scen[0]? = some (hd0 s.scen) := headD_get (by omega)
    have h21 := zf21 s U (hd0 s.scen) h00 hUl
    rw [Supply.cells] at h21
    cases hub : usesB s U
    · rw [hub] at h21
      refine fn_walk 47 Tryz.call15 Tryz.func15 rfl (by decide) fun J => ?_
      simp (maxSteps := 4000000) only [go_sem, St.start, Tryz.ntmps15, Tryz.results15, Supply.cells]
      repeat (first | refine walkL_true rfl ?_ | refine walkL_false rfl ?_ | refine walkL_seq ?_ | refine walkL_skip ?_ | refine walkL_block ?_ | (refine walkL_region fun K hK => ?_; simp (maxSteps := 4000000) only [go_sem]; (repeat (first | (refine ⟨_, .lent (hf := h56) (hd := rfl) (hr := rfl), ?_⟩; simp (maxSteps := 4000000) only [go_sem]) | (refine ⟨_, .lent (hf := h21) (hd := rfl) (hr := rfl), ?_⟩; simp (maxSteps := 4000000) only [go_sem]) | (refine ⟨_, .given (hf := h56) (hd := rfl) (ha := rfl), ?_⟩; simp (maxSteps := 4000000) only [go_sem]) | (refine ⟨_, .given (hf := h21) (hd := rfl) (ha := rfl), ?_⟩; simp (maxSteps := 4000000) only [go_sem]))); refine hK _ ?_; clear hK K) | refine walkL_nil ?_ | refine walkL_ret ?_ | refine walkL_exit ?_ | refine blockA_here ?_ | refine blockA_other rfl ?_ | refine blockA_ret ?_ | refine blockA_normal ?_ | refine thenA_ret ?_ | refine thenA_exit ?_ | refine thenA_normal ?_)
      simp (maxSteps := 4000000) only [go_sem]
    · rw [hub] at h21
      have hul : U.length = s.hours ∧ ∀ u ∈ U, s.use.lo ≤ u ∧ u ≤ s.use.hi := by
        rw [usesB, Bool.and_eq_true, List.all_eq_true, beq_iff_eq] at hub
        exact ⟨by omega, fun u hu => within_iff.1 (hub.1 u hu)⟩
      have hur : ∀ j < s.hours, 0 ≤ uAt U j ∧ uAt U j ≤ 500 := by
        intro j hj
        obtain ⟨x, hx⟩ : ∃ x, U[j]? = some x := ⟨_, List.getElem?_eq_getElem (by omega)⟩
        have r := hul.2 x (List.mem_of_getElem? hx)
        obtain ⟨_, _, _, r4⟩ := store_good h0
        have e : uAt U j = x := by rw [uAt, getI, Int.toNat_natCast, List.getD, hx]; rfl
        omega
      have hsr : ∀ k, k ≤ s.hours → _ := fun k hk => stockAt_range h0 hT (u := uAt U) k (fun j hj => hur j (by omega))
      have c57 := fun (h : Nat) (hh : h < s.hours) => zf57 s T h0 hs hT hh
      rw [Supply.cells] at c57
      obtain ⟨f, hf⟩ : ∃ f : Nat → Int, f = fun k => stockAt s T (uAt U) (k + 1) := ⟨_, rfl⟩
      have hst0 : s.stock = stockAt s T (uAt U) 0 := rfl
      unfold stocksL
      rw [← hf, ← hul.1]
      have hUH := hul.1
      refine fn_walk 47 Tryz.call15 Tryz.func15 rfl (by decide) fun J => ?_
      simp (maxSteps := 4000000) only [go_sem, St.start, Tryz.ntmps15, Tryz.results15, Supply.cells]
      repeat (first | refine walkL_true rfl ?_ | refine walkL_false rfl ?_ | refine walkL_seq ?_ | refine walkL_skip ?_ | refine walkL_block ?_ | (refine walkL_region fun K hK => ?_; simp (maxSteps := 4000000) only [go_sem]; (repeat (first | (refine ⟨_, .lent (hf := h56) (hd := rfl) (hr := rfl), ?_⟩; simp (maxSteps := 4000000) only [go_sem]) | (refine ⟨_, .lent (hf := h21) (hd := rfl) (hr := rfl), ?_⟩; simp (maxSteps := 4000000) only [go_sem]) | (refine ⟨_, .given (hf := h56) (hd := rfl) (ha := rfl), ?_⟩; simp (maxSteps := 4000000) only [go_sem]) | (refine ⟨_, .given (hf := h21) (hd := rfl) (ha := rfl), ?_⟩; simp (maxSteps := 4000000) only [go_sem]))); refine hK _ ?_; clear hK K) | refine walkL_nil ?_ | refine walkL_ret ?_ | refine walkL_exit ?_ | refine blockA_here ?_ | refine blockA_other rfl ?_ | refine blockA_ret ?_ | refine blockA_normal ?_ | refine thenA_ret ?_ | refine thenA_exit ?_ | refine thenA_normal ?_)
      refine walkL_loopS (fun (i : Nat) => [(11, .d (.i (i : Int))), (9, .d (.i (stockAt s T (uAt U) i))), (10, .own 45)]) (fun i => [(45, some (.arr 3 1 (intRows (rowQ f i fun _ => true))))]) (fun i => i ≤ U.length) (fun i => U.length - i) 0 ?_ (Nat.zero_le _) ?_
      · rw [← hst0]
        simp (maxSteps := 4000000) only [go_sem]
        refine weak_of [45] ?_ ?_ rfl rfl <;> simp [lessT, lessM, lessB, AV.less]
        all_goals first | done | rfl
      · intro i hi
        have hRl := rowQ_len f i (fun _ => true)
        simp (maxSteps := 4000000) only [go_sem]
        repeat (first | refine walkL_seq ?_ | refine walkL_skip ?_ | refine walkL_block ?_ | (refine walkL_region fun K hK => ?_; simp (maxSteps := 4000000) only [go_sem, intRows_len]; refine hK _ ?_; clear hK K) | refine walkL_nil ?_ | refine walkL_ret ?_ | refine walkL_exit ?_ | refine blockA_here ?_ | refine blockA_other rfl ?_ | refine blockA_ret ?_ | refine blockA_normal ?_ | refine thenA_ret ?_ | refine thenA_exit ?_ | refine thenA_normal ?_)
        refine walkL_cond rfl (fun hb => ?_) (fun hb => ?_)
        · have hlt : i < U.length := by simpa using hb
          have hw : IntKind.i64.wrap ((i : Int) + 1) = ((i + 1 : Nat) : Int) := by rw [wr_small (by omega)]; simp
          have c57i := c57 i (by omega)
          have gU : (intRows U)[i]? = some [.i (uAt U i)] := by
            obtain ⟨x, hx⟩ : ∃ x, U[i]? = some x := ⟨_, List.getElem?_eq_getElem (by omega)⟩
            rw [intRows_at hx, uAt, getI, Int.toNat_natCast, List.getD, hx]
            rfl
          have br := brought_range h0 T i
          have tl := hT.len
          have ur := hur i (by omega)
          have sr := hsr i (by omega)
          have e1 : IntKind.i64.wrap (brought s T i - uAt U i) = brought s T i - uAt U i := wr_small (by omega)
          have e2 : IntKind.i64.wrap (stockAt s T (uAt U) i + (brought s T i - uAt U i)) = stockAt s T (uAt U) (i + 1) := by
            rw [wr_small (by omega)]
            rfl
          have su : intRows (rowQ f i fun _ => true) ++ [[.i (stockAt s T (uAt U) (i + 1))]] = intRows (rowQ f (i + 1) fun _ => true) := by
            rw [rowQ_succ, hf]
            simp [intRows]
          obtain ⟨R, hR⟩ : ∃ R, R = rowQ f i fun _ => true := ⟨_, rfl⟩
          rw [← hR] at su hRl ⊢
          have hn : R.length + 1 ≤ 549755813888 := by omega
          have hni : ¬ ((i : Int) < 0) := by omega
          repeat (first | refine walkL_seq ?_ | refine walkL_skip ?_ | refine walkL_block ?_ | (refine walkL_region fun K hK => ?_; simp (maxSteps := 4000000) only [go_sem]; refine hK _ ?_; clear hK K) | refine walkL_nil ?_ | refine walkL_ret ?_ | refine walkL_exit ?_ | refine blockA_here ?_ | refine blockA_other rfl ?_ | refine blockA_ret ?_ | refine blockA_normal ?_ | refine thenA_ret ?_ | refine thenA_exit ?_ | refine thenA_normal ?_)
          refine walkL_drawn (by kernel_rfl) (by kernel_rfl) fun K hK => ?_
          simp (maxSteps := 4000000) only [go_sem, gU, hni, e1, e2]
          refine ⟨_, .fn (hf := c57i) (hd := rfl) (hr := .inl rfl), ?_⟩
          simp (maxSteps := 4000000) only [go_sem, e1, e2, gU, hni]
          refine ⟨by kernel_rfl, hK _ ?_⟩
          clear hK K
          repeat (first | refine walkL_seq ?_ | refine walkL_skip ?_ | refine walkL_block ?_ | (refine walkL_region fun K hK => ?_; simp (maxSteps := 4000000) only [go_sem, hn, su, intRows_len, hw]; refine hK _ ?_; clear hK K) | refine walkL_nil ?_ | refine walkL_ret ?_ | refine walkL_exit ?_ | refine blockA_here ?_ | refine blockA_other rfl ?_ | refine blockA_ret ?_ | refine blockA_normal ?_ | refine thenA_ret ?_ | refine thenA_exit ?_ | refine thenA_normal ?_)
          refine ⟨rfl, i + 1, ?_, hlt, by omega⟩
          refine weak_of [] ?_ ?_ rfl rfl <;> simp [lessT, lessM, lessB, AV.less]
          all_goals first | done | rfl
        · have he : i = U.length := by (have : ¬ i < U.length := by simpa using hb); omega
          subst he
          repeat (first | refine walkL_seq ?_ | refine walkL_skip ?_ | refine walkL_block ?_ | (refine walkL_region fun K hK => ?_; simp (maxSteps := 4000000) only [go_sem]; refine hK _ ?_; clear hK K) | refine walkL_nil ?_ | refine walkL_ret ?_ | refine walkL_exit ?_ | refine blockA_here ?_ | refine blockA_other rfl ?_ | refine blockA_ret ?_ | refine blockA_normal ?_ | refine thenA_ret ?_ | refine thenA_exit ?_ | refine thenA_normal ?_)
          simp (maxSteps := 4000000) only [go_sem]
  · rw [if_neg hz, if_neg hz]
    have hz2 : (openE6 s T != 0) = true := by simpa using hz
    obtain ⟨e, he⟩ : ∃ e, e = openE6 s T := ⟨_, rfl⟩
    rw [← he] at h56 hz2 ⊢
    refine fn_walk 47 Tryz.call15 Tryz.func15 rfl (by decide) fun J => ?_
    simp (maxSteps := 4000000) only [go_sem, St.start, Tryz.ntmps15, Tryz.results15, Supply.cells]
    repeat (first | refine walkL_true rfl ?_ | refine walkL_false rfl ?_ | refine walkL_seq ?_ | refine walkL_skip ?_ | refine walkL_block ?_ | (refine walkL_region fun K hK => ?_; simp (maxSteps := 4000000) only [go_sem, hz2]; (repeat (first | (refine ⟨_, .lent (hf := h56) (hd := rfl) (hr := rfl), ?_⟩; simp (maxSteps := 4000000) only [go_sem, hz2]) | (refine ⟨_, .given (hf := h56) (hd := rfl) (ha := rfl), ?_⟩; simp (maxSteps := 4000000) only [go_sem, hz2]))); refine hK _ ?_; clear hK K) | refine walkL_nil ?_ | refine walkL_ret ?_ | refine walkL_exit ?_ | refine blockA_here ?_ | refine blockA_other rfl ?_ | refine blockA_ret ?_ | refine blockA_normal ?_ | refine thenA_ret ?_ | refine thenA_exit ?_ | refine thenA_normal ?_)
    simp (maxSteps := 4000000) only [go_sem]
end Go.Ab
namespace Go.Ab
open Go.RowKit Go.Proofs
def sumU (u : Nat → Int) : Nat → Int
  | 0 => 0
  | n + 1 => sumU u n + u n
def total (s : Supply) : List (Int × Int) → Int
  | [] => 0
  | t :: T => ldAt s.loads t.2.toNat t.1.toNat + total s T
def ltT (a b : Int × Int) : Prop := a.1 < b.1 ∨ (a.1 = b.1 ∧ a.2 < b.2)
end Go.Ab
namespace Go.Ab
open Go.RowKit Go.Proofs
set_option maxHeartbeats 16000000
set_option maxRecDepth 20000
attribute [local irreducible] WalkL Walk
def badSt (s : Supply) (T : List (Int × Int)) (U : List Int) : Bool := far6 s || (decide ((T.length : Int) > 400) || decide ((U.length : Int) > 100))
theorem tripRows_head (T : List (Int × Int)) : headIs 2 (tripRows T) = true := by cases T <;> rfl
theorem zf3 (s : Supply) (T : List (Int × Int)) (U : List Int) (hs : SuppSmall s) (hTl : T.length < 2 ^ 30) (hUl : U.length < 2 ^ 30) : Fn Tryz.prog 3 [.agg s.cells, .sl (tripRows T), .sl (intRows U)] (.bool true) := by
  have h11 := zf11 s hs
  have h12 := zf12
  have h13 := zf13m s hs
  have h14 := zf14 s T U hs hTl hUl
  have h15 := zf15 s T U hs hTl hUl
  have h17 := zf17 s T hs hTl
  have h18 := zf18 s T hs hTl
  obtain ⟨L, hL⟩ : ∃ L, L = if stocksE s T U = 0 then stocksL s T U else [] := ⟨_, rfl⟩
  have hL2 : (if stocksE s T U = 0 then intRows (stocksL s T U) else []) = intRows L := by
    rw [hL]
    split <;> rfl
  rw [hL2] at h14 h15
  have hLl : L.length < 2 ^ 30 := by
    rw [hL]
    split
    · rename_i hz
      rw [stocksL_len]
      unfold stocksE at hz
      split at hz
      · rename_i hz2
        have := (small6 (openE6_zero.1 hz2).1).hours
        omega
      · rename_i hz2; exact absurd hz hz2
    · simp
  have h16 := zf16 L L hLl
  rw [decide_eq_true (rfl : L = L)] at h16
  obtain ⟨e, he⟩ : ∃ e, e = stocksE s T U := ⟨_, rfl⟩
  rw [← he] at h14 h15
  obtain ⟨a1, a2, a3, a4, ha⟩ : ∃ a1 a2 a3 a4, lastsP6 s T = (a1, a2, a3, a4) := ⟨_, _, _, _, rfl⟩
  rw [ha] at h17 h18
  dsimp only at h17 h18
  have hne : (e != e) = false := by simp
  have hn1 : T.length ≤ 549755813888 := by omega
  have hn2 : U.length ≤ 549755813888 := by omega
  rw [Supply.cells] at h11 h13 h14 h15 h17 h18
  refine fn_walk 101 Tryz.call3 Tryz.func3 rfl (by decide) fun J => ?_
  simp (maxSteps := 4000000) only [go_sem, St.start, Tryz.ntmps3, Tryz.results3, Supply.cells]
  repeat (first | refine walkL_seq ?_ | refine walkL_skip ?_ | refine walkL_block ?_ | (refine walkL_region fun K hK => ?_; simp (maxSteps := 4000000) only [go_sem]; refine hK _ ?_; clear hK K) | refine walkL_nil ?_ | refine walkL_ret ?_ | refine walkL_exit ?_ | refine blockA_here ?_ | refine blockA_other rfl ?_ | refine blockA_ret ?_ | refine blockA_normal ?_ | refine thenA_ret ?_ | refine thenA_exit ?_ | refine thenA_normal ?_)
  refine walkL_meetS [(32, .d (.bool (badSt s T U)))] [] ?_ ?_
  · refine walkL_region fun K hK => ?_
    simp (maxSteps := 4000000) only [go_sem, tripRows_len, intRows_len]
    refine ⟨_, .lent (hf := h11) (hd := rfl) (hr := rfl), ?_⟩
    simp (maxSteps := 4000000) only [go_sem, tripRows_len, intRows_len]
    by_cases ho0 : (far6 s) = true
    · simp (maxSteps := 4000000) only [go_sem, tripRows_len, intRows_len, ho0]
      refine hK _ ?_
      clear hK K
      refine walkL_nil ?_
      refine thenA_normal ?_
      refine ⟨rfl, ?_⟩
      rw [show (badSt s T U) = (true) from by simp [badSt, ho0]]
      simp (maxSteps := 4000000) only [go_sem]
      refine weak_of [] ?_ ?_ rfl rfl <;> simp [lessT, lessM, lessB, AV.less]
    · simp (maxSteps := 4000000) only [go_sem, tripRows_len, intRows_len, ho0]
      by_cases ho1 : (decide ((T.length : Int) > 400)) = true
      · simp (maxSteps := 4000000) only [go_sem, tripRows_len, intRows_len, ho0, ho1]
        refine hK _ ?_
        clear hK K
        refine walkL_nil ?_
        refine thenA_normal ?_
        refine ⟨rfl, ?_⟩
        rw [show (badSt s T U) = (true) from by simp [badSt, ho0, ho1]]
        simp (maxSteps := 4000000) only [go_sem]
        refine weak_of [] ?_ ?_ rfl rfl <;> simp [lessT, lessM, lessB, AV.less]
      · simp (maxSteps := 4000000) only [go_sem, tripRows_len, intRows_len, ho0, ho1]
        refine hK _ ?_
        clear hK K
        refine walkL_nil ?_
        refine thenA_normal ?_
        refine ⟨rfl, ?_⟩
        rw [show (badSt s T U) = (decide ((U.length : Int) > 100)) from by simp [badSt, ho0, ho1]]
        simp (maxSteps := 4000000) only [go_sem]
        refine weak_of [] ?_ ?_ rfl rfl <;> simp [lessT, lessM, lessB, AV.less]
  simp (maxSteps := 4000000) only [go_sem]
  repeat (first | refine walkL_seq ?_ | refine walkL_skip ?_ | refine walkL_block ?_ | (refine walkL_region fun K hK => ?_; simp (maxSteps := 4000000) only [go_sem]; refine hK _ ?_; clear hK K) | refine walkL_nil ?_ | refine walkL_ret ?_ | refine walkL_exit ?_ | refine blockA_here ?_ | refine blockA_other rfl ?_ | refine blockA_ret ?_ | refine blockA_normal ?_ | refine thenA_ret ?_ | refine thenA_exit ?_ | refine thenA_normal ?_)
  refine walkL_cond rfl (fun hc => ?_) (fun hc => ?_)
  · repeat (first | refine walkL_seq ?_ | refine walkL_skip ?_ | refine walkL_block ?_ | (refine walkL_region fun K hK => ?_; simp (maxSteps := 4000000) only [go_sem]; (repeat (first | (refine ⟨_, .lent (hf := h12) (hd := rfl) (hr := rfl), ?_⟩; simp (maxSteps := 4000000) only [go_sem]) | (refine ⟨_, .given (hf := h12) (hd := rfl) (ha := rfl), ?_⟩; simp (maxSteps := 4000000) only [go_sem]))); refine hK _ ?_; clear hK K) | refine walkL_nil ?_ | refine walkL_ret ?_ | refine walkL_exit ?_ | refine blockA_here ?_ | refine blockA_other rfl ?_ | refine blockA_ret ?_ | refine blockA_normal ?_ | refine thenA_ret ?_ | refine thenA_exit ?_ | refine thenA_normal ?_)
    simp (maxSteps := 4000000) only [go_sem]
  · repeat (first | refine walkL_seq ?_ | refine walkL_skip ?_ | refine walkL_block ?_ | (refine walkL_region fun K hK => ?_; simp (maxSteps := 4000000) only [go_sem]; refine hK _ ?_; clear hK K) | refine walkL_nil ?_ | refine walkL_ret ?_ | refine walkL_exit ?_ | refine blockA_here ?_ | refine blockA_other rfl ?_ | refine blockA_ret ?_ | refine blockA_normal ?_ | refine thenA_ret ?_ | refine thenA_exit ?_ | refine thenA_normal ?_)
    refine walkL_region fun K hK => ?_
    simp (maxSteps := 4000000) only [go_sem]
    refine ⟨_, .made (news := [19, 20]) (hf := h13) (hd := rfl) (hn := by decide) (hl := rfl) (hnew := rfl) (hx := rfl), ?_⟩
    simp (maxSteps := 4000000) only [go_sem, List.map_cons, List.map_nil, tripRows_len, hn1, tripRows_head]
    refine hK _ ?_
    clear hK K
    repeat (first | refine walkL_seq ?_ | refine walkL_skip ?_ | refine walkL_block ?_ | (refine walkL_region fun K hK => ?_; simp (maxSteps := 4000000) only [go_sem]; refine hK _ ?_; clear hK K) | refine walkL_nil ?_ | refine walkL_ret ?_ | refine walkL_exit ?_ | refine blockA_here ?_ | refine blockA_other rfl ?_ | refine blockA_ret ?_ | refine blockA_normal ?_ | refine thenA_ret ?_ | refine thenA_exit ?_ | refine thenA_normal ?_)
    refine walkL_release [19, 20, 36] ?_
    simp (maxSteps := 4000000) only [go_sem]
    refine walkL_drawnR [44] (by kernel_rfl) (by kernel_rfl) fun K hK => ?_
    simp (maxSteps := 4000000) only [go_sem, intRows_len, hn2, List.nil_append]
    refine ⟨_, .fn (hf := h14) (hd := rfl) (hr := .inr rfl), ?_⟩
    simp (maxSteps := 4000000) only [go_sem]
    refine ⟨by kernel_rfl, hK _ ?_⟩
    clear hK K
    repeat (first | refine walkL_true rfl ?_ | refine walkL_false rfl ?_ | refine walkL_seq ?_ | refine walkL_skip ?_ | refine walkL_block ?_ | (refine walkL_region fun K hK => ?_; simp (maxSteps := 4000000) only [go_sem, hne, beq_self_eq_true]; (repeat (first | (refine ⟨_, .lent (hf := h15) (hd := rfl) (hr := rfl), ?_⟩; simp (maxSteps := 4000000) only [go_sem, hne, beq_self_eq_true]) | (refine ⟨_, .lent (hf := h16) (hd := rfl) (hr := rfl), ?_⟩; simp (maxSteps := 4000000) only [go_sem, hne, beq_self_eq_true]) | (refine ⟨_, .lent (hf := h17) (hd := rfl) (hr := rfl), ?_⟩; simp (maxSteps := 4000000) only [go_sem, hne, beq_self_eq_true]) | (refine ⟨_, .lent (hf := h18) (hd := rfl) (hr := rfl), ?_⟩; simp (maxSteps := 4000000) only [go_sem, hne, beq_self_eq_true]) | (refine ⟨_, .lent (hf := h12) (hd := rfl) (hr := rfl), ?_⟩; simp (maxSteps := 4000000) only [go_sem, hne, beq_self_eq_true]) | (refine ⟨_, .given (hf := h15) (hd := rfl) (ha := rfl), ?_⟩; simp (maxSteps := 4000000) only [go_sem, hne, beq_self_eq_true]) | (refine ⟨_, .given (hf := h16) (hd := rfl) (ha := rfl), ?_⟩; simp (maxSteps := 4000000) only [go_sem, hne, beq_self_eq_true]) | (refine ⟨_, .given (hf := h17) (hd := rfl) (ha := rfl), ?_⟩; simp (maxSteps := 4000000) only [go_sem, hne, beq_self_eq_true]) | (refine ⟨_, .given (hf := h18) (hd := rfl) (ha := rfl), ?_⟩; simp (maxSteps := 4000000) only [go_sem, hne, beq_self_eq_true]) | (refine ⟨_, .given (hf := h12) (hd := rfl) (ha := rfl), ?_⟩; simp (maxSteps := 4000000) only [go_sem, hne, beq_self_eq_true]))); refine hK _ ?_; clear hK K) | refine walkL_nil ?_ | refine walkL_ret ?_ | refine walkL_exit ?_ | refine blockA_here ?_ | refine blockA_other rfl ?_ | refine blockA_ret ?_ | refine blockA_normal ?_ | refine thenA_ret ?_ | refine thenA_exit ?_ | refine thenA_normal ?_)
    simp (maxSteps := 4000000) only [go_sem]
end Go.Ab
