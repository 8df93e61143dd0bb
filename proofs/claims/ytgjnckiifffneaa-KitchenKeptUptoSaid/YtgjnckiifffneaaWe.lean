/- A walk engine over abstract states, and the contracts of the functions that the statement reaches: part 5. -/
import Derived.Test.YtgjnckiifffneaaWd
set_option linter.unusedVariables false
set_option linter.unusedSimpArgs false
set_option linter.unnecessarySimpa false
namespace Go.Ab
open Go.RowKit Go.Proofs
set_option maxHeartbeats 16000000
set_option maxRecDepth 20000
attribute [local irreducible] WalkL Walk
def plannerRow (k : Kitchen) : List AV := [.d (.sl (intRows k.allerg)), .d (.sl (batRows k.batches)), .d (.sl (dishRows k.dishes)), .d (.sl (dayRows k.days)), .mp 1]
theorem ten {L : List Int} (h : L.length = 10) : ∃ a b c d e f g i j l, L = [a, b, c, d, e, f, g, i, j, l] := by
  match L, h with
  | [a, b, c, d, e, f, g, i, j, l], _ => exact ⟨a, b, c, d, e, f, g, i, j, l, rfl⟩
def planR (v : PlanV) : AV := .agg [.d (.i v.1), .d (.sl (intRows v.2))]
def HasF40 (k : Kitchen) (r : Nat) : Prop := ∀ (l : List Int) (M : List EntK × Nat), l.length = k.batches.length → AmtOk l →
  FnG Try.prog 40 [.box (plannerRow k), .mp (some 11) (memK M.1) M.2] [0] [.box 0 0, .d (.agg (.i ((k.days.length - r : Nat) : Int) :: (pad10 l).map .i))] (planR (bestM k r l M).1)
    [.box (plannerRow k), .mp (some 11) (memK (bestM k r l M).2.1) (bestM k r l M).2.2]
def Pick : List (List Int) → List Int → Prop
  | [], [] => True
  | S :: gs, d :: t => d ∈ S ∧ Pick gs t
  | _, _ => False
theorem mem_addL : ∀ {SS : List (List Int)} {pre m : List Int}, m ∈ addL SS pre ↔ ∃ t, m = pre ++ t ∧ Pick SS t
  | [], pre, m => by
    simp only [addL, List.mem_singleton]
    constructor
    · rintro rfl; exact ⟨[], by simp, trivial⟩
    · rintro ⟨t, rfl, ht⟩
      cases t with
      | nil => simp
      | cons => exact ht.elim
  | S :: gs, pre, m => by
    simp only [addL, List.mem_flatMap, mem_addL (SS := gs)]
    constructor
    · rintro ⟨d, hd, t, rfl, ht⟩; exact ⟨d :: t, by simp, hd, ht⟩
    · rintro ⟨t, rfl, ht⟩
      cases t with
      | nil => exact ht.elim
      | cons d t => exact ⟨d, ht.1, t, by simp, ht.2⟩
theorem Pick.len : ∀ {SS : List (List Int)} {t : List Int}, Pick SS t → t.length = SS.length
  | [], [], _ => rfl
  | _ :: gs, _ :: t, h => by rw [List.length_cons, List.length_cons, Pick.len h.2]
  | [], _ :: _, h => h.elim
  | _ :: _, [], h => h.elim
theorem Pick.at : ∀ {SS : List (List Int)} {t : List Int}, Pick SS t → ∀ {g : Nat} {x : Int}, t[g]? = some x → ∃ S, SS[g]? = some S ∧ x ∈ S
  | [], [], _, g, x, h => by simp at h
  | S :: gs, d :: t, hp, g, x, h => by
    cases g with
    | zero => simp at h; subst h; exact ⟨S, rfl, hp.1⟩
    | succ g => simpa using Pick.at hp.2 (by simpa using h)
  | [], _ :: _, h, _, _, _ => h.elim
  | _ :: _, [], h, _, _, _ => h.elim
theorem pick_ok {k : Kitchen} (hg : KitGood k) {d : Nat} (hd : d < k.days.length) {m : List Int} (hm : m ∈ choicesL k d) : m.length = (k.days.getD d []).length ∧ DayOk k m (hiN k d) := by
  obtain ⟨t, e, hp⟩ := mem_addL.1 hm
  rw [List.nil_append] at e
  subst e
  have hl : m.length = (k.days.getD d []).length := by rw [hp.len]; simp [suitDay]
  have h3 : (k.days.getD d []).length ≤ 3 := by
    rw [List.getD, List.getElem?_eq_getElem hd]
    exact (hg.groups _ (List.getElem_mem hd)).1
  refine ⟨hl, ⟨by omega, fun g hgl => ?_, fun g hgl => (hi_ok hg).rng d g hd (by omega)⟩⟩
  obtain ⟨x, hx⟩ : ∃ x, m[g]? = some x := ⟨_, List.getElem?_eq_getElem hgl⟩
  obtain ⟨S, hS, hxS⟩ := hp.at hx
  rw [suitDay, List.getElem?_map, Option.map_eq_some_iff] at hS
  obtain ⟨y, _, rfl⟩ := hS
  obtain ⟨n, rfl, hn, _⟩ := suit_mem hxS
  exact ⟨n, hx, hn⟩
theorem copy10 {c : List Int} (h : c.length ≤ 10) (x : AV) : (List.map (fun r => AV.d (r.getD 0 DV.any)) (List.take (min c.length 10) (intRows c)) ++ List.drop (1 + min c.length 10)
    [x, AV.d (.i 0), .d (.i 0), .d (.i 0), .d (.i 0), .d (.i 0), .d (.i 0), .d (.i 0), .d (.i 0), .d (.i 0), .d (.i 0)]) = (pad10 c).map fun n => AV.d (.i n) := by
  rw [Nat.min_eq_left h, Nat.add_comm, List.drop_succ_cons, List.take_of_length_le (by simp [intRows]),
    show [AV.d (.i 0), .d (.i 0), .d (.i 0), .d (.i 0), .d (.i 0), .d (.i 0), .d (.i 0), .d (.i 0), .d (.i 0), .d (.i 0)] = List.replicate 10 (AV.d (.i 0)) from rfl, List.drop_replicate, pad10, List.map_append, List.map_replicate, intRows, List.map_map]
  rfl
theorem zf40z (k : Kitchen) (hg : KitGood k) : HasF40 k 0 := fun l M hl ha => by
  obtain ⟨es, c⟩ := M
  have hb := hg.batches
  obtain ⟨x0, x1, x2, x3, x4, x5, x6, x7, x8, x9, hx⟩ := ten (z118 (l := l) (by omega))
  rw [hx, bestM, Nat.sub_zero]
  dsimp only [planR, List.map_cons, List.map_nil]
  have hq : ((k.days.length : Int) == (k.days.length : Int)) = true := by simp
  refine z79 124 Try.call40 Try.func40 rfl (by decide) [] [(0, 0)] (by simp only [List.length_cons, List.length_nil]; decide) (by kernel_rfl) fun J => ?_
  simp (maxSteps := 4000000) only [go_sem, St.startG, Try.ntmps40, Try.results40, List.map_cons, List.map_nil, List.range_succ,  plannerRow]
  repeat (first | refine z21 ?_ | refine z16 ?_ | refine z14 ?_ | (refine z12 fun K hK => ?_; simp (maxSteps := 4000000) only [go_sem]; refine hK _ ?_; clear hK K) | refine z20 ?_ | refine z22 ?_ | refine z17 ?_ | refine z15 ?_ | refine z13 rfl ?_ | refine z19 ?_ | refine z10 ?_ | refine z23 ?_ | refine z18 ?_ | refine z11 ?_)
  refine z28 (by kernel_rfl) (by kernel_rfl) fun K hK => ?_
  simp (maxSteps := 4000000) only [go_sem, hq]
  refine ⟨by kernel_rfl, hK _ ?_⟩
  clear hK K
  refine z25 rfl ?_
  repeat (first | refine z21 ?_ | refine z16 ?_ | refine z14 ?_ | refine z20 ?_ | refine z10 ?_ | refine z11 ?_)
  refine z12 fun K hK => ?_
  simp (maxSteps := 4000000) only [go_sem]
  refine hK _ ?_
  clear hK K
  refine walkL_head [] [] [(4, some (.box [.d (.i 0), .d (.sl (intRows []))]))] ?_ ?_
  · simp (maxSteps := 4000000) only [go_sem]
    refine z26 [] ?_ ?_ rfl rfl <;> simp [lessT, lessM, lessB, AV.less, intRows]
  simp (maxSteps := 4000000) only [go_sem]
  repeat (first | refine z21 ?_ | refine z16 ?_ | refine z14 ?_ | (refine z12 fun K hK => ?_; simp (maxSteps := 4000000) only [go_sem]; refine hK _ ?_; clear hK K) | refine z20 ?_ | refine z22 ?_ | refine z17 ?_ | refine z15 ?_ | refine z13 rfl ?_ | refine z19 ?_ | refine z10 ?_ | refine z23 ?_ | refine z18 ?_ | refine z11 ?_)
  simp (maxSteps := 4000000) only [go_sem, retG, plannerRow]
theorem zf40s (k : Kitchen) (hg : KitGood k) (r : Nat) (hr : r + 1 ≤ k.days.length) (ih : HasF40 k r) : HasF40 k (r + 1) := fun l M hl ha => by
  obtain ⟨es, c⟩ := M
  have hb := hg.batches
  obtain ⟨x0, x1, x2, x3, x4, x5, x6, x7, x8, x9, hx⟩ := ten (z118 (l := l) (by omega))
  obtain ⟨d, hd⟩ : ∃ d, d = k.days.length - (r + 1) := ⟨_, rfl⟩
  have hdl : d < k.days.length := by omega
  rw [hx, bestM, ← hd]
  have hq : ((d : Int) == (k.days.length : Int)) = false := by simp; omega
  have e1 := z222 es (keyK d l) 0
  have hk : keyK d l = [(d : Int), x0, x1, x2, x3, x4, x5, x6, x7, x8, x9] := by rw [keyK, hx]
  dsimp only [List.map_cons, List.map_nil] at e1 ⊢
  have hsl : ([DV.i x0, .i x1, .i x2, .i x3, .i x4, .i x5, .i x6, .i x7, .i x8, .i x9].take k.batches.length).map (fun d => [d]) = intRows l := by
    have : (pad10 l).take k.batches.length = l := by rw [pad10, ← hl, List.take_left']; rfl
    rw [hx] at this
    have e : [DV.i x0, .i x1, .i x2, .i x3, .i x4, .i x5, .i x6, .i x7, .i x8, .i x9] = [x0, x1, x2, x3, x4, x5, x6, x7, x8, x9].map .i := rfl
    rw [e, ← List.map_take, this, intRows, List.map_map]
    rfl
  cases hlk : lookK es (keyK d l) 0 with
  | some p =>
    obtain ⟨j, v, bn⟩ := p
    rw [hlk] at e1
    rw [hk] at e1
    dsimp only [Option.map_some, planD, planR] at e1 ⊢
    refine z79 124 Try.call40 Try.func40 rfl (by decide) [] [(0, 0)] (by simp only [List.length_cons, List.length_nil]; decide) (by kernel_rfl) fun J => ?_
    simp (maxSteps := 4000000) only [go_sem, St.startG, Try.ntmps40, Try.results40, List.map_cons, List.map_nil, List.range_succ,  plannerRow]
    repeat (first | refine z21 ?_ | refine z16 ?_ | refine z14 ?_ | (refine z12 fun K hK => ?_; simp (maxSteps := 4000000) only [go_sem]; refine hK _ ?_; clear hK K) | refine z20 ?_ | refine z22 ?_ | refine z17 ?_ | refine z15 ?_ | refine z13 rfl ?_ | refine z19 ?_ | refine z10 ?_ | refine z23 ?_ | refine z18 ?_ | refine z11 ?_)
    refine z28 (by kernel_rfl) (by kernel_rfl) fun K hK => ?_
    simp (maxSteps := 4000000) only [go_sem, hq]
    refine ⟨by kernel_rfl, hK _ ?_⟩
    clear hK K
    refine z24 rfl ?_
    repeat (first | refine z21 ?_ | refine z16 ?_ | refine z14 ?_ | (refine z12 fun K hK => ?_; simp (maxSteps := 4000000) only [go_sem]; refine hK _ ?_; clear hK K) | refine z20 ?_ | refine z22 ?_ | refine z17 ?_ | refine z15 ?_ | refine z13 rfl ?_ | refine z19 ?_ | refine z10 ?_ | refine z23 ?_ | refine z18 ?_ | refine z11 ?_)
    refine z28 (by kernel_rfl) (by kernel_rfl) fun K hK => ?_
    simp (maxSteps := 4000000) only [go_sem, e1]
    refine ⟨by kernel_rfl, hK _ ?_⟩
    clear hK K
    repeat (first | refine z21 ?_ | refine z16 ?_ | refine z14 ?_ | (refine z12 fun K hK => ?_; simp (maxSteps := 4000000) only [go_sem]; refine hK _ ?_; clear hK K) | refine z20 ?_ | refine z22 ?_ | refine z17 ?_ | refine z15 ?_ | refine z13 rfl ?_ | refine z19 ?_ | refine z10 ?_ | refine z23 ?_ | refine z18 ?_ | refine z11 ?_)
    refine z25 rfl ?_
    repeat (first | refine z21 ?_ | refine z16 ?_ | refine z14 ?_ | (refine z12 fun K hK => ?_; simp (maxSteps := 4000000) only [go_sem]; refine hK _ ?_; clear hK K) | refine z20 ?_ | refine z22 ?_ | refine z17 ?_ | refine z15 ?_ | refine z13 rfl ?_ | refine z19 ?_ | refine z10 ?_ | refine z23 ?_ | refine z18 ?_ | refine z11 ?_)
    simp (maxSteps := 4000000) only [go_sem, retG, plannerRow]
  | none =>
    rw [hlk] at e1
    rw [hk] at e1
    dsimp only [Option.map_none, planR] at e1 ⊢
    refine z79 124 Try.call40 Try.func40 rfl (by decide) [] [(0, 0)] (by simp only [List.length_cons, List.length_nil]; decide) (by kernel_rfl) fun J => ?_
    simp (maxSteps := 4000000) only [go_sem, St.startG, Try.ntmps40, Try.results40, List.map_cons, List.map_nil, List.range_succ,  plannerRow]
    repeat (first | refine z21 ?_ | refine z16 ?_ | refine z14 ?_ | (refine z12 fun K hK => ?_; simp (maxSteps := 4000000) only [go_sem]; refine hK _ ?_; clear hK K) | refine z20 ?_ | refine z22 ?_ | refine z17 ?_ | refine z15 ?_ | refine z13 rfl ?_ | refine z19 ?_ | refine z10 ?_ | refine z23 ?_ | refine z18 ?_ | refine z11 ?_)
    refine z28 (by kernel_rfl) (by kernel_rfl) fun K hK => ?_
    simp (maxSteps := 4000000) only [go_sem, hq]
    refine ⟨by kernel_rfl, hK _ ?_⟩
    clear hK K
    refine z24 rfl ?_
    repeat (first | refine z21 ?_ | refine z16 ?_ | refine z14 ?_ | (refine z12 fun K hK => ?_; simp (maxSteps := 4000000) only [go_sem]; refine hK _ ?_; clear hK K) | refine z20 ?_ | refine z22 ?_ | refine z17 ?_ | refine z15 ?_ | refine z13 rfl ?_ | refine z19 ?_ | refine z10 ?_ | refine z23 ?_ | refine z18 ?_ | refine z11 ?_)
    refine z28 (by kernel_rfl) (by kernel_rfl) fun K hK => ?_
    simp (maxSteps := 4000000) only [go_sem, e1]
    refine ⟨by kernel_rfl, hK _ ?_⟩
    clear hK K
    repeat (first | refine z21 ?_ | refine z16 ?_ | refine z14 ?_ | (refine z12 fun K hK => ?_; simp (maxSteps := 4000000) only [go_sem]; refine hK _ ?_; clear hK K) | refine z20 ?_ | refine z22 ?_ | refine z17 ?_ | refine z15 ?_ | refine z13 rfl ?_ | refine z19 ?_ | refine z10 ?_ | refine z23 ?_ | refine z18 ?_ | refine z11 ?_)
    refine z24 rfl ?_
    refine z38 [3] ?_
    simp (maxSteps := 4000000) only [go_sem]
    have h41 : FnG Try.prog 41 [] [] (List.map AV.d [.agg k.cells]) _ _ := zf41 k hb
    have h77 := zf77 l (by omega)
    have h42 := zf42 k hb (d : Int) l (ordK k) 0 hl ha (by decide)
    obtain ⟨c1, c2, c3⟩ := z63 (k := k) (day := (d : Int)) (w := 0) ha k.batches.length
    have c4 := z54 k (d : Int) l 0 k.batches.length
    obtain ⟨⟨C, w0⟩, hC⟩ : ∃ a, a = clrTo k (d : Int) l 0 k.batches.length := ⟨_, rfl⟩
    rw [← hC] at h42 c1 c2 c3 c4 ⊢
    dsimp only at c1 c2 c3 c4
    have h77c := zf77 C (by omega)
    have h78 := zf78 k d
    have h97 := zf97 k hg d hdl
    simp only [lardRow] at h41 h42
    rw [Kitchen.cells] at h41 h78
    repeat (first | refine z21 ?_ | refine z16 ?_ | refine z14 ?_ | (refine z12 fun K hK => ?_; simp (maxSteps := 4000000) only [go_sem]; refine hK _ ?_; clear hK K) | refine z20 ?_ | refine z22 ?_ | refine z17 ?_ | refine z15 ?_ | refine z13 rfl ?_ | refine z19 ?_ | refine z10 ?_ | refine z23 ?_ | refine z18 ?_ | refine z11 ?_)
    refine z12 fun K hK => ?_
    simp (maxSteps := 4000000) only [go_sem]
    refine ⟨_, .made (news := [41, 17, 18]) (hf := h41) (hd := rfl) (hn := by decide) (hl := rfl) (hnew := rfl) (hx := rfl), ?_⟩
    simp (maxSteps := 4000000) only [go_sem, List.map_cons, List.map_nil]
    refine hK _ ?_
    clear hK K
    repeat (first | refine z21 ?_ | refine z16 ?_ | refine z14 ?_ | refine z20 ?_ | refine z10 ?_ | refine z11 ?_)
    have hbi : (k.batches.length : Int) ≤ 10 := by omega
    refine z28 (by kernel_rfl) (by kernel_rfl) fun K hK => ?_
    simp (maxSteps := 4000000) only [go_sem, hsl, hbi, Nat.sub_zero]
    refine ⟨_, .fnS (hdst := rfl) (hf := h77) (hd := rfl) (hr := .inl (z47 _)) (hfr := rfl), ?_⟩
    simp (maxSteps := 4000000) only [go_sem]
    refine ⟨by kernel_rfl, hK _ ?_⟩
    clear hK K
    repeat (first | refine z21 ?_ | refine z16 ?_ | refine z14 ?_ | refine z20 ?_ | refine z10 ?_ | refine z11 ?_)
    refine z12 fun K hK => ?_
    simp (maxSteps := 4000000) only [go_sem]
    refine ⟨_, .own (ns := [41, 52, 18]) (news := []) (bads := [52, 18]) (rd := []) (hf := h42) (hnd := by decide) (hl0 := rfl) (hl1 := rfl) (hm := by repeat (first | exact trivial | refine And.intro ?_ ?_ | rfl)) (hnew := rfl) (hla := rfl) (ha := z42 (by repeat (first | exact trivial | refine And.intro ?_ ?_ | exact z45 rfl | exact z39 rfl rfl))) (hrd := rfl) (hsh := z40 _) (hb := rfl) (hfl := .inl rfl), ?_⟩
    simp (maxSteps := 4000000) only [go_sem, List.map_cons, List.map_nil]
    refine hK _ ?_
    clear hK K
    repeat (first | refine z21 ?_ | refine z16 ?_ | refine z14 ?_ | refine z20 ?_ | refine z10 ?_ | refine z11 ?_)
    refine z28 (by kernel_rfl) (by kernel_rfl) fun K hK => ?_
    simp (maxSteps := 4000000) only [go_sem]
    refine ⟨by kernel_rfl, hK _ ?_⟩
    clear hK K
    repeat (first | refine z21 ?_ | refine z16 ?_ | refine z14 ?_ | refine z20 ?_ | refine z10 ?_ | refine z11 ?_)
    refine z28 (by kernel_rfl) (by kernel_rfl) fun K hK => ?_
    simp (maxSteps := 4000000) only [go_sem]
    refine ⟨_, .fn (hf := h78) (hd := rfl) (hr := .inr rfl), ?_⟩
    simp (maxSteps := 4000000) only [go_sem]
    refine ⟨by kernel_rfl, hK _ ?_⟩
    clear hK K
    repeat (first | refine z21 ?_ | refine z16 ?_ | refine z14 ?_ | (refine z12 fun K hK => ?_; simp (maxSteps := 4000000) only [go_sem]; refine hK _ ?_; clear hK K) | refine z20 ?_ | refine z22 ?_ | refine z17 ?_ | refine z15 ?_ | refine z13 rfl ?_ | refine z19 ?_ | refine z10 ?_ | refine z23 ?_ | refine z18 ?_ | refine z11 ?_)
    refine z83 [14, 15, 16, 17, 19, 20, 21, 22, 23, 24, 25, 26, 27, 28, 29, 30, 31, 32, 33, 34, 35, 36, 37, 38, 39, 40, 42, 43, 44, 45, 46, 47, 48, 49, 50, 51, 53, 54, 55, 56, 57, 58, 59, 60, 61, 62, 63, 64, 65, 66, 67, 68, 69, 70, 71, 72] ?_ ?_
    · simp (maxSteps := 4000000) only [go_sem]
      refine z26 [] ?_ ?_ rfl rfl <;> simp [lessT, lessM, lessB, AV.less]
    simp (maxSteps := 4000000) only [go_sem]
    obtain ⟨stp, hstp⟩ : ∃ stp, stp = bestS k d (C, w0) (bestM k r) := ⟨_, rfl⟩
    rw [← hstp]
    obtain ⟨N, hN⟩ : ∃ N, N = choicesL k d := ⟨_, rfl⟩
    rw [← hN] at h97 ⊢
    rw [Kitchen.cells] at h97
    refine walkL_rangeT [] (m0 := []) rfl (by decide) rfl h97 (by intro row hr; obtain ⟨m, _, rfl⟩ := List.mem_map.1 hr; rfl) (fun _ => []) (fun (a : PlanV × (List EntK × Nat)) => [(7, some (.box [.d (.i a.1.1), .d (.sl (intRows a.1.2))])), (41, some (.box [.d (.sl (intRows k.allerg)), .d (.sl (batRows k.batches)), .d (.sl (dishRows k.dishes)), .d (.sl (dayRows k.days)), .undef, .own 18, .d (.i w0)])), (125, some (.mp (some 11) (memK a.2.1) a.2.2))])
      (fun i a => a = (N.take i).foldl stp ((1099511627776, []), (es, c))) (fun _ _ => False) ((1099511627776, []), (es, c)) ?_ rfl ?_ ?_ (fun _ _ h => h.elim)
    · simp (maxSteps := 4000000) only [go_sem]
      refine z26 [] ?_ ?_ rfl rfl <;> simp [lessT, lessM, lessB, AV.less, intRows]
    · rintro X W i ⟨⟨bw, bm⟩, es1, c1'⟩ row hi ha l2 m2
      dsimp only
      rw [menuRows, List.getElem?_map, Option.map_eq_some_iff] at hi
      obtain ⟨m, hm, rfl⟩ := hi
      simp (maxSteps := 4000000) only [go_sem]
      repeat (first | refine z21 ?_ | refine z16 ?_ | refine z14 ?_ | (refine z12 fun K hK => ?_; simp (maxSteps := 4000000) only [go_sem]; refine hK _ ?_; clear hK K) | refine z20 ?_ | refine z22 ?_ | refine z17 ?_ | refine z15 ?_ | refine z13 rfl ?_ | refine z19 ?_ | refine z10 ?_ | refine z23 ?_ | refine z18 ?_ | refine z11 ?_)
      refine z28 (by kernel_rfl) (by kernel_rfl) fun K hK => ?_
      simp (maxSteps := 4000000) only [go_sem]
      refine ⟨_, .fnS (hdst := rfl) (hf := h77c) (hd := rfl) (hr := .inl (z47 _)) (hfr := rfl), ?_⟩
      simp (maxSteps := 4000000) only [go_sem]
      refine ⟨by kernel_rfl, hK _ ?_⟩
      clear hK K
      repeat (first | refine z21 ?_ | refine z16 ?_ | refine z14 ?_ | refine z20 ?_ | refine z10 ?_ | refine z11 ?_)
      obtain ⟨hml, hday⟩ := pick_ok hg hdl (by rw [← hN]; exact List.mem_of_getElem? hm)
      have h44 := (zf44 k hg m (hiN k d) 79 [.ptr [.ptr (k.cells ++ [.any]) 0] 0, .ptr (.i (d : Int) :: [.i x0, .i x1, .i x2, .i x3, .i x4, .i x5, .i x6, .i x7, .i x8, .i x9]) 0] hday (fun j hj => zf79 k d j hdl (by omega) _))
      have h43 := zf43 k (needL k m (hiN k d)) C (ordK k) w0 (by omega) hb c1 (z75 hg hday) (by rw [z65]; exact hg.goods.2) (fun x hx => z129 hx) (by rw [z161]; exact hb)
      rw [z65] at h43
      rw [Kitchen.cells] at h44
      dsimp only [List.cons_append, List.nil_append] at h44
      have hnx : (N.take (i + 1)).foldl stp ((1099511627776, []), (es, c)) = stp ((bw, bm), (es1, c1')) m := by rw [z78 _ _ _ _ _ hm, ← ha]
      obtain ⟨NN, hNN⟩ : ∃ NN, NN = needL k m (hiN k d) := ⟨_, rfl⟩
      rw [← hNN] at h44 h43
      have hsm : stp ((bw, bm), (es1, c1')) m = match takeTo k (ordK k) NN C k.allerg.length with
        | none => ((bw, bm), (es1, c1'))
        | some l => (if wr (w0 + (bestM k r l (es1, c1')).1.1) < bw then (wr (w0 + (bestM k r l (es1, c1')).1.1), m) else (bw, bm), (bestM k r l (es1, c1')).2) := by rw [hstp, hNN]; rfl
      rw [hsm] at hnx
      cases htk : takeTo k (ordK k) NN C k.allerg.length with
      | none =>
        rw [htk] at h43 hnx
        simp only [takeBlks, lardRow, Option.isSome_none] at h43
        refine z143 (fun b => [(80, bif b 0 then .undef else .box 41 0), (81, bif b 1 then .undef else .box 124 0), (82, bif b 2 then .undef else .box 124 0), (83, bif b 3 then .undef else .box 124 0),
          (84, bif b 4 then .undef else .agg [.d (.sl (intRows k.allerg)), .d (.sl (batRows k.batches)), .d (.sl (dishRows k.dishes)), .d (.sl (dayRows k.days))]), (85, bif b 5 then .undef else .d (.sl (intRows m))),
          (86, bif b 6 then .undef else .fn 79 [.box 2 0, .d (.ptr [.i (d : Int), .i x0, .i x1, .i x2, .i x3, .i x4, .i x5, .i x6, .i x7, .i x8, .i x9] 0)]), (87, bif b 7 then .undef else .own 87)])
          (fun b => [(87, bif b 7 then none else some (.arr 3 1 (intRows NN)))]) 8 (by kernel_rfl) (by kernel_rfl) (by kernel_rfl) (by decide) ?_ ?_ (z91 [87] _) ?_
        · simp (maxSteps := 4000000) only [go_sem]
        · refine ⟨?_, ?_, ?_, ?_, ?_, ?_, ?_, ?_, trivial⟩
          all_goals
            intro b hbm hdm _
            simp only [depsM, Region.binds, true_and, and_true, Nat.zero_add, Nat.reduceAdd, reduceCtorEq, forall_const] at hdm
            refine ⟨rfl, rfl, ?_⟩
            simp (maxSteps := 4000000) only [go_sem, hbm, hdm]
          · refine ⟨_, .lentS (hdst := rfl) (hf := h44) (hd := rfl) (hr := z47 _) (hfr := rfl), ?_⟩
            simp (maxSteps := 4000000) only [go_sem, hbm, hdm]
        · intro K hK
          simp (maxSteps := 4000000) only [go_sem]
          refine ⟨_, .own (ns := [41, 77, 18]) (news := []) (bads := [77, 18]) (rd := []) (hf := h43) (hnd := by decide) (hl0 := rfl) (hl1 := rfl) (hm := by repeat (first | exact trivial | refine And.intro ?_ ?_ | rfl)) (hnew := rfl) (hla := rfl) (ha := z42 (by repeat (first | exact trivial | refine And.intro ?_ ?_ | exact z45 rfl | exact z39 rfl rfl))) (hrd := rfl) (hsh := z40 _) (hb := rfl) (hfl := .inl rfl), ?_⟩
          simp (maxSteps := 4000000) only [go_sem, List.map_cons, List.map_nil]
          refine hK _ _ ?_
          clear hK K
          repeat (first | refine z21 ?_ | refine z16 ?_ | refine z14 ?_ | refine z20 ?_ | refine z10 ?_ | refine z11 ?_)
          refine z25 rfl ?_
          repeat (first | refine z21 ?_ | refine z16 ?_ | refine z14 ?_ | (refine z12 fun K hK => ?_; simp (maxSteps := 4000000) only [go_sem]; refine hK _ ?_; clear hK K) | refine z20 ?_ | refine z22 ?_ | refine z17 ?_ | refine z15 ?_ | refine z13 rfl ?_ | refine z19 ?_ | refine z10 ?_ | refine z23 ?_ | refine z18 ?_ | refine z11 ?_)
          refine ⟨rfl, _, ?_, hnx.symm⟩
          simp (maxSteps := 4000000) only [go_sem]
          refine z26 [] ?_ ?_ rfl rfl <;> simp [lessT, lessM, lessB, AV.less]
      | some c' =>
        rw [htk] at h43 hnx
        simp only [takeBlks, lardRow, Option.isSome_some] at h43
        refine z143 (fun b => [(80, bif b 0 then .undef else .box 41 0), (81, bif b 1 then .undef else .box 124 0), (82, bif b 2 then .undef else .box 124 0), (83, bif b 3 then .undef else .box 124 0),
          (84, bif b 4 then .undef else .agg [.d (.sl (intRows k.allerg)), .d (.sl (batRows k.batches)), .d (.sl (dishRows k.dishes)), .d (.sl (dayRows k.days))]), (85, bif b 5 then .undef else .d (.sl (intRows m))),
          (86, bif b 6 then .undef else .fn 79 [.box 2 0, .d (.ptr [.i (d : Int), .i x0, .i x1, .i x2, .i x3, .i x4, .i x5, .i x6, .i x7, .i x8, .i x9] 0)]), (87, bif b 7 then .undef else .own 87)])
          (fun b => [(87, bif b 7 then none else some (.arr 3 1 (intRows NN)))]) 8 (by kernel_rfl) (by kernel_rfl) (by kernel_rfl) (by decide) ?_ ?_ (z91 [87] _) ?_
        · simp (maxSteps := 4000000) only [go_sem]
        · refine ⟨?_, ?_, ?_, ?_, ?_, ?_, ?_, ?_, trivial⟩
          all_goals
            intro b hbm hdm _
            simp only [depsM, Region.binds, true_and, and_true, Nat.zero_add, Nat.reduceAdd, reduceCtorEq, forall_const] at hdm
            refine ⟨rfl, rfl, ?_⟩
            simp (maxSteps := 4000000) only [go_sem, hbm, hdm]
          · refine ⟨_, .lentS (hdst := rfl) (hf := h44) (hd := rfl) (hr := z47 _) (hfr := rfl), ?_⟩
            simp (maxSteps := 4000000) only [go_sem, hbm, hdm]
        · intro K hK
          simp (maxSteps := 4000000) only [go_sem]
          refine ⟨_, .own (ns := [41, 77, 18]) (news := [6]) (bads := [77, 18]) (rd := []) (hf := h43) (hnd := by decide) (hl0 := rfl) (hl1 := rfl) (hm := by repeat (first | exact trivial | refine And.intro ?_ ?_ | rfl)) (hnew := rfl) (hla := rfl) (ha := z42 (by repeat (first | exact trivial | refine And.intro ?_ ?_ | exact z45 rfl | exact z39 rfl rfl))) (hrd := rfl) (hsh := z40 _) (hb := rfl) (hfl := .inl rfl), ?_⟩
          simp (maxSteps := 4000000) only [go_sem, List.map_cons, List.map_nil]
          refine hK _ _ ?_
          clear hK K
          repeat (first | refine z21 ?_ | refine z16 ?_ | refine z14 ?_ | refine z20 ?_ | refine z10 ?_ | refine z11 ?_)
          refine z24 rfl ?_
          obtain ⟨t1, t2⟩ := z113 (k := k) (o := ordK k) (needs := NN) c1 (fun x hx => by rw [hNN] at hx; exact (z75 hg hday x hx).1) k.allerg.length c' htk
          have hcl : c'.length = k.batches.length := by omega
          have ihc := ih c' (es1, c1') hcl t1
          have hdr : k.days.length - r = d + 1 := by omega
          rw [hdr] at ihc
          obtain ⟨y0, y1, y2, y3, y4, y5, y6, y7, y8, y9, hy⟩ := ten (z118 (l := c') (by omega))
          rw [hy] at ihc
          dsimp only at hnx
          obtain ⟨⟨pw, pm⟩, es2, c2', hbm⟩ : ∃ p es2 c2', bestM k r c' (es1, c1') = (p, es2, c2') := ⟨_, _, _, rfl⟩
          rw [hbm] at ihc hnx
          dsimp only [planR, List.map_cons, List.map_nil] at ihc hnx
          rw [plannerRow] at ihc
          have hw1 : IntKind.i64.wrap ((d : Int) + 1) = ((d + 1 : Nat) : Int) := by have := hg.days; rw [z30 (by omega)]; simp
          have hi1 : headIs 1 (intRows c') = true := by cases c' <;> rfl
          repeat (first | refine z21 ?_ | refine z16 ?_ | refine z14 ?_ | (refine z12 fun K hK => ?_; simp (maxSteps := 4000000) only [go_sem, hw1]; refine hK _ ?_; clear hK K) | refine z20 ?_ | refine z22 ?_ | refine z17 ?_ | refine z15 ?_ | refine z13 rfl ?_ | refine z19 ?_ | refine z10 ?_ | refine z23 ?_ | refine z18 ?_ | refine z11 ?_)
          have hcp := copy10 (c := c') (by omega) (.d (.i ((d + 1 : Nat) : Int)))
          rw [hy] at hcp
          simp only [List.map_cons, List.map_nil] at hcp
          refine z28 (by kernel_rfl) (by kernel_rfl) fun K hK => ?_
          simp (maxSteps := 4000000) only [go_sem, hi1, z32, hcp]
          refine ⟨by kernel_rfl, hK _ ?_⟩
          clear hK K
          repeat (first | refine z21 ?_ | refine z16 ?_ | refine z14 ?_ | refine z20 ?_ | refine z10 ?_ | refine z11 ?_)
          refine z12 fun K hK => ?_
          simp (maxSteps := 4000000) only [go_sem]
          refine ⟨_, .own (ns := [124, 125]) (news := []) (bads := [125]) (rd := []) (hf := ihc) (hnd := by decide) (hl0 := rfl) (hl1 := rfl) (hm := by repeat (first | exact trivial | refine And.intro ?_ ?_ | rfl)) (hnew := rfl) (hla := rfl) (ha := z42 (by repeat (first | exact trivial | refine And.intro ?_ ?_ | exact z45 rfl | exact z39 rfl rfl))) (hrd := rfl) (hsh := z40 _) (hb := rfl) (hfl := .inl rfl), ?_⟩
          simp (maxSteps := 4000000) only [go_sem, List.map_cons, List.map_nil]
          refine hK _ ?_
          clear hK K
          by_cases hlt : wr (w0 + pw) < bw
          · have hd2 : decide (wr (w0 + pw) < bw) = true := decide_eq_true hlt
            rw [if_pos hlt] at hnx
            rw [wr] at hd2 hnx
            repeat (first | refine z25 rfl ?_ | refine z24 rfl ?_ | refine z21 ?_ | refine z16 ?_ | refine z14 ?_ | (refine z12 fun K hK => ?_; simp (maxSteps := 4000000) only [go_sem, hd2]; refine hK _ ?_; clear hK K) | refine z20 ?_ | refine z22 ?_ | refine z17 ?_ | refine z15 ?_ | refine z13 rfl ?_ | refine z19 ?_ | refine z10 ?_ | refine z23 ?_ | refine z18 ?_ | refine z11 ?_)
            refine ⟨rfl, _, ?_, hnx.symm⟩
            simp (maxSteps := 4000000) only [go_sem]
            refine z26 [] ?_ ?_ rfl rfl <;> simp [lessT, lessM, lessB, AV.less]
          · have hd2 : decide (wr (w0 + pw) < bw) = false := decide_eq_false hlt
            rw [if_neg hlt] at hnx
            rw [wr] at hd2
            repeat (first | refine z25 rfl ?_ | refine z24 rfl ?_ | refine z21 ?_ | refine z16 ?_ | refine z14 ?_ | (refine z12 fun K hK => ?_; simp (maxSteps := 4000000) only [go_sem, hd2]; refine hK _ ?_; clear hK K) | refine z20 ?_ | refine z22 ?_ | refine z17 ?_ | refine z15 ?_ | refine z13 rfl ?_ | refine z19 ?_ | refine z10 ?_ | refine z23 ?_ | refine z18 ?_ | refine z11 ?_)
            refine ⟨rfl, _, ?_, hnx.symm⟩
            simp (maxSteps := 4000000) only [go_sem]
            refine z26 [] ?_ ?_ rfl rfl <;> simp [lessT, lessM, lessB, AV.less]
    · rintro ⟨⟨bw, bm⟩, es1, c1'⟩ ha
      rw [z66, List.take_length] at ha
      rw [← ha]
      dsimp only
      simp (maxSteps := 4000000) only [go_sem]
      repeat (first | refine z21 ?_ | refine z16 ?_ | refine z14 ?_ | refine z20 ?_ | refine z10 ?_ | refine z11 ?_)
      have e5 := z222 es1 (keyK d l) 0
      rw [hk] at e5 ⊢
      refine z143 (fun b => [(117, bif b 0 then .undef else .box 124 0), (118, bif b 1 then .undef else .box 124 0), (119, bif b 2 then .undef else .box 124 4), (120, bif b 3 then .undef else .mp 125),
          (121, bif b 4 then .undef else .d (.agg [.i (d : Int), .i x0, .i x1, .i x2, .i x3, .i x4, .i x5, .i x6, .i x7, .i x8, .i x9])), (122, bif b 5 then .undef else .agg [.d (.i bw), .d (.sl (intRows bm))])])
          (fun b => []) 6 (by kernel_rfl) (by kernel_rfl) (by kernel_rfl) (by decide) ?_ ?_ (Weak.refl _) ?_
      · simp (maxSteps := 4000000) only [go_sem]
      · refine ⟨?_, ?_, ?_, ?_, ?_, ?_, trivial⟩
        all_goals
          intro b hbm hdm _
          simp only [depsM, Region.binds, true_and, and_true, Nat.zero_add, Nat.reduceAdd, reduceCtorEq, forall_const] at hdm
          refine ⟨rfl, rfl, ?_⟩
          simp (maxSteps := 4000000) only [go_sem, hbm, hdm]
      · intro K hK
        cases hlk2 : lookK es1 [(d : Int), x0, x1, x2, x3, x4, x5, x6, x7, x8, x9] 0 with
        | none =>
          rw [hlk2] at e5
          dsimp only [Option.map_none] at e5
          rw [putK_none (i := 0) (bw, bm) c1' hlk2] at hK
          dsimp only at hK
          rw [memK_push, planD] at hK
          simp (maxSteps := 4000000) only [go_sem, e5]
          refine hK _ _ ?_
          clear hK K
          repeat (first | refine z21 ?_ | refine z16 ?_ | refine z14 ?_ | (refine z12 fun K hK => ?_; simp (maxSteps := 4000000) only [go_sem]; refine hK _ ?_; clear hK K) | refine z20 ?_ | refine z22 ?_ | refine z17 ?_ | refine z15 ?_ | refine z13 rfl ?_ | refine z19 ?_ | refine z10 ?_ | refine z23 ?_ | refine z18 ?_ | refine z11 ?_)
          simp (maxSteps := 4000000) only [go_sem, retG, plannerRow, planR]
        | some p =>
          obtain ⟨j, v, bn⟩ := p
          rw [hlk2] at e5
          dsimp only [Option.map_some] at e5
          have e4 := (putK_some (i := 0) (bw, bm) c1' hlk2).2
          rw [Nat.sub_zero] at e4
          rw [e4] at hK
          dsimp only at hK
          rw [memK_set, planD] at hK
          simp (maxSteps := 4000000) only [go_sem, e5]
          refine hK _ _ ?_
          clear hK K
          repeat (first | refine z21 ?_ | refine z16 ?_ | refine z14 ?_ | (refine z12 fun K hK => ?_; simp (maxSteps := 4000000) only [go_sem]; refine hK _ ?_; clear hK K) | refine z20 ?_ | refine z22 ?_ | refine z17 ?_ | refine z15 ?_ | refine z13 rfl ?_ | refine z19 ?_ | refine z10 ?_ | refine z23 ?_ | refine z18 ?_ | refine z11 ?_)
          simp (maxSteps := 4000000) only [go_sem, retG, plannerRow, planR]
theorem zf40 (k : Kitchen) (hg : KitGood k) : ∀ r, r ≤ k.days.length → HasF40 k r
  | 0, _ => zf40z k hg
  | r + 1, h => zf40s k hg r h (zf40 k hg r (by omega))
end Go.Ab
namespace Go.Ab
open Go.RowKit Go.Proofs
def bestSN (k : Kitchen) (d : Nat) (c : List Int × Int) (rec : List Int → PlanV) (a : PlanV) (m : List Int) : PlanV :=
  match takeD k d m c.1 with
  | none => a
  | some l => if c.2 + (rec l).1 < a.1 then (c.2 + (rec l).1, m) else a
def bestN (k : Kitchen) : Nat → List Int → PlanV
  | 0, _ => (0, [])
  | r + 1, l => (choicesL k (k.days.length - (r + 1))).foldl (bestSN k (k.days.length - (r + 1)) (clrTo k ((k.days.length - (r + 1) : Nat) : Int) l 0 k.batches.length) (bestN k r)) (1099511627776, [])
def lookT (es : List EntK) (k : List Int) : Option PlanV := (lookK es k 0).map (·.2.1)
theorem lookK_idx : ∀ (es : List EntK) (k : List Int) (i j : Nat), (lookK es k i).map (·.2.1) = (lookK es k j).map (·.2.1)
  | [], _, _, _ => rfl
  | e :: es, k, i, j => by
    rw [lookK, lookK]
    split
    · rfl
    · exact lookK_idx es k _ _
theorem z125 (e : EntK) (es : List EntK) (k : List Int) : lookT (e :: es) k = if k = e.1 then some e.2.1 else lookT es k := by
  rw [lookT, lookK]
  split
  · rfl
  · exact lookK_idx es k _ _
theorem lookT_put : ∀ (es : List EntK) (k k' : List Int) (w : PlanV) (c : Nat), lookT (putK es k w c).1 k' = if k' = k then some w else lookT es k'
  | [], k, k', w, c => by
    rw [putK, z125]
  | e :: es, k, k', w, c => by
    rw [putK]
    by_cases hk : k = e.1
    · rw [if_pos hk]
      dsimp only
      rw [z125, z125]
      by_cases h1 : k' = k
      · rw [if_pos h1, if_pos h1]
      · rw [if_neg h1, if_neg h1, if_neg (by rw [← hk]; exact h1)]
    · rw [if_neg hk]
      dsimp only
      rw [z125, z125, lookT_put es k k' w c]
      by_cases h1 : k' = k
      · rw [if_pos h1, if_pos h1, if_neg (by rw [h1]; exact hk)]
      · rw [if_neg h1, if_neg h1]
theorem pad10_inj {a b : List Int} (h : a.length = b.length) (e : pad10 a = pad10 b) : a = b := by
  have := congrArg (List.take a.length) e
  rwa [pad10, pad10, List.take_left', h, List.take_left'] at this <;> first | rfl | exact h.symm
theorem keyK_inj {d e : Nat} {a b : List Int} (h : a.length = b.length) (q : keyK d a = keyK e b) : d = e ∧ a = b := by
  rw [keyK, keyK, List.cons.injEq] at q
  exact ⟨by omega, pad10_inj h q.2⟩
def GoodT (k : Kitchen) (es : List EntK) : Prop := ∀ (d : Nat) (l : List Int) v, d ≤ k.days.length → l.length = k.batches.length → lookT es (keyK d l) = some v → v = bestN k (k.days.length - d) l
theorem goodT_nil (k : Kitchen) : GoodT k [] := fun d l v _ _ h => by cases h
theorem goodT_put {k : Kitchen} {es : List EntK} (h : GoodT k es) {d : Nat} {l : List Int} (hl : l.length = k.batches.length) {v : PlanV} (hv : v = bestN k (k.days.length - d) l) (c : Nat) : GoodT k (putK es (keyK d l) v c).1 := fun d' l' v' hd' hl' hg => by
  rw [lookT_put] at hg
  split at hg
  · rename_i e
    obtain ⟨rfl, rfl⟩ := keyK_inj (by omega) e
    cases hg
    exact hv
  · exact h d' l' v' hd' hl' hg
theorem foldl_inv {α β : Type} {f : α → β → α} {p : α → Prop} : ∀ (N : List β) {a : α}, p a → (∀ a m, m ∈ N → p a → p (f a m)) → p (N.foldl f a)
  | [], _, h, _ => h
  | m :: N, _, h, hs => foldl_inv N (hs _ m (by simp) h) fun a x hx => hs a x (by simp [hx])
theorem takeD_ok {k : Kitchen} (hg : KitGood k) {d : Nat} (hd : d < k.days.length) {m l l' : List Int} (hm : DayOk k m (hiN k d)) (ha : AmtOk l) (h : takeD k d m l = some l') : AmtOk l' ∧ l'.length = l.length :=
  z113 ha (fun x hx => (z75 hg hm x hx).1) _ _ h
def clr0 (k : Kitchen) (d : Nat) (l : List Int) : List Int × Int := clrTo k (d : Int) l 0 k.batches.length
theorem clr0_ok {k : Kitchen} (hg : KitGood k) {d : Nat} {l : List Int} (hl : l.length = k.batches.length) (ha : AmtOk l) : AmtOk (clr0 k d l).1 ∧ (clr0 k d l).1.length = k.batches.length ∧ 0 ≤ (clr0 k d l).2 ∧ (clr0 k d l).2 ≤ 10000000 := by
  obtain ⟨h1, h2, h3⟩ := z63 (k := k) (day := (d : Int)) (w := 0) ha k.batches.length
  have := hg.batches
  refine ⟨h1, by rw [clr0, z54, hl], h2, ?_⟩
  unfold clr0
  omega
theorem bestN_ok {k : Kitchen} (hg : KitGood k) : ∀ r, r ≤ k.days.length → ∀ l : List Int, l.length = k.batches.length → AmtOk l →
    (0 ≤ (bestN k r l).1 ∧ (bestN k r l).1 ≤ 1099511627776) ∧ (bestN k r l = (1099511627776, []) ∨ r = 0 ∨ (bestN k r l).2 ∈ choicesL k (k.days.length - r))
  | 0, _, l, _, _ => by simp [bestN]
  | r + 1, hr, l, hl, ha => by
    rw [bestN]
    obtain ⟨d, hd⟩ : ∃ d, d = k.days.length - (r + 1) := ⟨_, rfl⟩
    rw [← hd]
    change (0 ≤ ((choicesL k d).foldl (bestSN k d (clr0 k d l) (bestN k r)) (1099511627776, [])).1 ∧ _) ∧ (((choicesL k d).foldl (bestSN k d (clr0 k d l) (bestN k r)) (1099511627776, [])) = _ ∨ _)
    obtain ⟨c1, c2, c3, c4⟩ := clr0_ok hg (d := d) hl ha
    refine foldl_inv (p := fun a : PlanV => (0 ≤ a.1 ∧ a.1 ≤ 1099511627776) ∧ (a = (1099511627776, []) ∨ r + 1 = 0 ∨ a.2 ∈ choicesL k d)) (choicesL k d) ⟨by decide, .inl rfl⟩ fun a m hm h => ?_
    unfold bestSN
    split
    · exact h
    · rename_i l' hl'
      obtain ⟨t1, t2⟩ := takeD_ok hg (by omega) (pick_ok hg (by omega) hm).2 c1 hl'
      have hb := (bestN_ok hg r (by omega) l' (by omega) t1).1
      split
      · exact ⟨by dsimp only; omega, .inr (.inr hm)⟩
      · exact h
theorem z224 {k : Kitchen} (hg : KitGood k) : ∀ r, r ≤ k.days.length → ∀ l : List Int, l.length = k.batches.length → AmtOk l → ∀ M : List EntK × Nat, GoodT k M.1 → (bestM k r l M).1 = bestN k r l ∧ GoodT k (bestM k r l M).2.1
  | 0, _, l, _, _, M, h => ⟨rfl, h⟩
  | r + 1, hr, l, hl, ha, M, h => by
    obtain ⟨d, hd⟩ : ∃ d, d = k.days.length - (r + 1) := ⟨_, rfl⟩
    have hrd : k.days.length - d = r + 1 := by omega
    have hN : bestN k (r + 1) l = (choicesL k d).foldl (bestSN k d (clr0 k d l) (bestN k r)) (1099511627776, []) := by rw [bestN, ← hd]; rfl
    rw [bestM, ← hd]
    cases hlk : lookK M.1 (keyK d l) 0 with
    | some p =>
      obtain ⟨j, v, bn⟩ := p
      dsimp only
      refine ⟨?_, h⟩
      rw [← hrd]
      exact h d l v (by omega) hl (by rw [lookT, hlk]; rfl)
    | none =>
      dsimp only
      change ((choicesL k d).foldl (bestS k d (clr0 k d l) (bestM k r)) ((1099511627776, []), M)).1 = _ ∧ GoodT k (putK ((choicesL k d).foldl (bestS k d (clr0 k d l) (bestM k r)) ((1099511627776, []), M)).2.1 (keyK d l) ((choicesL k d).foldl (bestS k d (clr0 k d l) (bestM k r)) ((1099511627776, []), M)).1 _).1
      have key : ∀ (N : List (List Int)) (a : PlanV) (M : List EntK × Nat), (∀ m ∈ N, m ∈ choicesL k d) → GoodT k M.1 → (0 ≤ a.1 ∧ a.1 ≤ 1099511627776) →
          (N.foldl (bestS k d (clr0 k d l) (bestM k r)) (a, M)).1 = N.foldl (bestSN k d (clr0 k d l) (bestN k r)) a ∧ GoodT k (N.foldl (bestS k d (clr0 k d l) (bestM k r)) (a, M)).2.1 := by
        intro N
        induction N with
        | nil => intro a M _ hM _; exact ⟨rfl, hM⟩
        | cons m N ih =>
          intro a M hm hM ha2
          rw [List.foldl_cons, List.foldl_cons]
          obtain ⟨c1, c2, c3, c4⟩ := clr0_ok hg (d := d) hl ha
          have hmd := hm m (by simp)
          have ih := fun a M => ih a M fun x hx => hm x (by simp [hx])
          cases ht : takeD k d m (clr0 k d l).1 with
          | none =>
            have e1 : bestS k d (clr0 k d l) (bestM k r) (a, M) m = (a, M) := by rw [bestS, ht]
            have e2 : bestSN k d (clr0 k d l) (bestN k r) a m = a := by rw [bestSN, ht]
            rw [e1, e2]
            exact ih a M hM ha2
          | some l' =>
            obtain ⟨t1, t2⟩ := takeD_ok hg (by omega) (pick_ok hg (by omega) hmd).2 c1 ht
            obtain ⟨b1, b2⟩ := z224 hg r (by omega) l' (by omega) t1 M hM
            have hb := (bestN_ok hg r (by omega) l' (by omega) t1).1
            have hw : wr ((clr0 k d l).2 + (bestN k r l').1) = (clr0 k d l).2 + (bestN k r l').1 := z30 (by omega)
            have e1 : bestS k d (clr0 k d l) (bestM k r) (a, M) m = (if (clr0 k d l).2 + (bestN k r l').1 < a.1 then ((clr0 k d l).2 + (bestN k r l').1, m) else a, (bestM k r l' M).2) := by
              rw [bestS, ht]
              dsimp only
              rw [b1, hw]
            have e2 : bestSN k d (clr0 k d l) (bestN k r) a m = if (clr0 k d l).2 + (bestN k r l').1 < a.1 then ((clr0 k d l).2 + (bestN k r l').1, m) else a := by rw [bestSN, ht]
            rw [e1, e2]
            refine ih _ _ b2 ?_
            split
            · dsimp only; omega
            · exact ha2
      obtain ⟨k1, k2⟩ := key (choicesL k d) (1099511627776, []) M (fun _ h => h) h (by decide)
      rw [k1, hN]
      exact ⟨rfl, goodT_put k2 hl (by rw [hrd, hN]) _⟩
end Go.Ab
namespace Go.Ab
open Go.RowKit Go.Proofs
set_option maxHeartbeats 16000000
set_option maxRecDepth 20000
attribute [local irreducible] WalkL Walk
theorem clrTo_w (k : Kitchen) (day : Int) (l : List Int) (w : Int) : ∀ j, (clrTo k day l w j).1 = (clrTo k day l 0 j).1
  | 0 => rfl
  | j + 1 => by
    rw [clrTo, clrTo, clrTo_w k day l w j]
    split
    · rfl
    · exact clrTo_w k day l w j
def planL (k : Kitchen) : Nat → List Int × List (List Int)
  | 0 => (amtK k, [])
  | i + 1 => ((takeD k i (bestN k (k.days.length - i) (planL k i).1).2 (clr0 k i (planL k i).1).1).getD (clr0 k i (planL k i).1).1, (planL k i).2 ++ [(bestN k (k.days.length - i) (planL k i).1).2])
theorem planL_at (k : Kitchen) (i : Nat) : planL k (i + 1) = ((takeD k i (bestN k (k.days.length - i) (planL k i).1).2 (clr0 k i (planL k i).1).1).getD (clr0 k i (planL k i).1).1, (planL k i).2 ++ [(bestN k (k.days.length - i) (planL k i).1).2]) := rfl
theorem z140 (k : Kitchen) : (amtK k).length = k.batches.length := by simp [amtK]
theorem dayOk_nil (k : Kitchen) (cnt : Nat → Int) : DayOk k [] cnt := ⟨by decide, fun g h => by simp at h, fun g h => by simp at h⟩
theorem bestN_menu {k : Kitchen} (hg : KitGood k) {i : Nat} (hi : i < k.days.length) {l : List Int} (hl : l.length = k.batches.length) (ha : AmtOk l) : DayOk k (bestN k (k.days.length - i) l).2 (hiN k i) ∧ ((bestN k (k.days.length - i) l).2.length ≤ (k.days.getD i []).length) := by
  rcases (bestN_ok hg (k.days.length - i) (by omega) l hl ha).2 with h | h | h
  · rw [h]; exact ⟨dayOk_nil k _, Nat.zero_le _⟩
  · omega
  · rw [show k.days.length - (k.days.length - i) = i by omega] at h
    obtain ⟨h1, h2⟩ := pick_ok hg hi h
    exact ⟨h2, by omega⟩
theorem planL_ok {k : Kitchen} (hg : KitGood k) : ∀ i, i ≤ k.days.length → AmtOk (planL k i).1 ∧ (planL k i).1.length = k.batches.length
  | 0, _ => ⟨z299 hg, z140 k⟩
  | i + 1, h => by
    obtain ⟨h1, h2⟩ := planL_ok hg i (by omega)
    obtain ⟨c1, c2, c3, c4⟩ := clr0_ok hg (d := i) h2 h1
    rw [planL]
    dsimp only
    cases ht : takeD k i (bestN k (k.days.length - i) (planL k i).1).2 (clr0 k i (planL k i).1).1 with
    | none => exact ⟨c1, c2⟩
    | some l' =>
      obtain ⟨t1, t2⟩ := takeD_ok hg (by omega) (bestN_menu hg (by omega) h2 h1).1 c1 ht
      exact ⟨t1, by rw [Option.getD_some, t2, c2]⟩
theorem planL_len (k : Kitchen) : ∀ i, (planL k i).2.length = i
  | 0 => rfl
  | i + 1 => by rw [planL]; simp [planL_len k i]
def wasteK (k : Kitchen) : Int := (bestN k k.days.length (amtK k)).1
def planK (k : Kitchen) : List (List Int) × Int × Int :=
  if kitE k = 0 then (if wasteK k ≥ 1099511627776 then ([], 0, 3) else ((planL k k.days.length).2, wasteK k, 0)) else ([], 0, kitE k)
def lefts (k : Kitchen) (i : Nat) : List Int := (amtK k).take i ++ List.replicate (10 - i) 0
theorem lefts_len {k : Kitchen} {i : Nat} (h : i ≤ 10) (hi : i ≤ k.batches.length := by omega) : (lefts k i).length = 10 := by simp [lefts, amtK]; omega
theorem lefts_set {k : Kitchen} {i : Nat} (h : i < k.batches.length) (hb : k.batches.length ≤ 10) : (lefts k i).set i (batAt k i).amount = lefts k (i + 1) := by
  have e : (amtK k)[i]? = some (batAt k i).amount := by
    have := (List.getElem?_eq_getElem h)
    simp [amtK, batAt, this]
  have hl : ((amtK k).take i).length = i := by simp [amtK]; omega
  rw [lefts, lefts, List.take_add_one, e, List.set_append_right _ _ (by omega), hl, Nat.sub_self, show 10 - i = (10 - (i + 1)) + 1 by omega, List.replicate_succ]
  simp
theorem lefts_all (k : Kitchen) : lefts k k.batches.length = pad10 (amtK k) := by rw [lefts, pad10, z140, List.take_of_length_le (by rw [z140]; exact Nat.le_refl _)]
theorem copy10p {c p : List Int} (h : c.length ≤ 10) (hp : p.length = c.length) (x : AV) : (List.map (fun r => AV.d (r.getD 0 DV.any)) (List.take (min c.length 10) (intRows c)) ++ List.drop (1 + min c.length 10)
    (x :: (pad10 p).map fun n => AV.d (.i n))) = (pad10 c).map fun n => AV.d (.i n) := by
  rw [Nat.min_eq_left h, Nat.add_comm, List.drop_succ_cons, List.take_of_length_le (by simp [intRows]), ← List.map_drop, pad10, ← hp, List.drop_left', pad10, ← hp, List.map_append, intRows, List.map_map]
  · rfl
  · rfl
theorem zf15 (k : Kitchen) (hs : KitSmall k) : Fn Try.prog 15 [.agg k.cells] (.tup [.sl (listRows (planK k).1), .i (planK k).2.1, .i (planK k).2.2]) := by
  have h35 := zf35 k hs
  unfold planK
  by_cases h0 : ¬ kitE k = 0
  · have hb : (kitE k == 0) = false := by simpa using h0
    have hb2 : (kitE k != 0) = true := by simpa using h0
    rw [if_neg h0]
    rw [Kitchen.cells] at h35 ⊢
    dsimp only
    refine z31 86 Try.call15 Try.func15 rfl (by decide) fun J => ?_
    simp (maxSteps := 4000000) only [go_sem, St.start, Try.ntmps15, Try.results15]
    repeat (first | refine z25 rfl ?_ | refine z24 rfl ?_ | refine z21 ?_ | refine z16 ?_ | refine z14 ?_ | (refine z12 fun K hK => ?_; simp (maxSteps := 4000000) only [go_sem, hb, hb2]; (repeat (first | (refine ⟨_, .lent (hf := h35) (hd := rfl) (hr := rfl), ?_⟩; simp (maxSteps := 4000000) only [go_sem, hb, hb2]) | (refine ⟨_, .given (hf := h35) (hd := rfl) (ha := rfl), ?_⟩; simp (maxSteps := 4000000) only [go_sem, hb, hb2]))); refine hK _ ?_; clear hK K) | refine z20 ?_ | refine z22 ?_ | refine z17 ?_ | refine z15 ?_ | refine z13 rfl ?_ | refine z19 ?_ | refine z10 ?_ | refine z23 ?_ | refine z18 ?_ | refine z11 ?_)
    simp (maxSteps := 4000000) only [go_sem, listRows, List.map_nil]
  have h0 : kitE k = 0 := Decidable.not_not.1 h0
  rw [if_pos h0]
  have hg : KitGood k := z193 (by
    cases hb : badKit k with
    | false => rfl
    | true => rw [kitE, hb] at h0; cases h0)
  rw [h0] at h35
  have hbl := hg.batches
  have h10 := hg.days
  rw [Kitchen.cells] at h35 ⊢
  refine z31 86 Try.call15 Try.func15 rfl (by decide) fun J => ?_
  simp (maxSteps := 4000000) only [go_sem, St.start, Try.ntmps15, Try.results15]
  repeat (first | refine z25 rfl ?_ | refine z24 rfl ?_ | refine z21 ?_ | refine z16 ?_ | refine z14 ?_ | (refine z12 fun K hK => ?_; simp (maxSteps := 4000000) only [go_sem]; (repeat (first | (refine ⟨_, .lent (hf := h35) (hd := rfl) (hr := rfl), ?_⟩; simp (maxSteps := 4000000) only [go_sem]) | (refine ⟨_, .given (hf := h35) (hd := rfl) (ha := rfl), ?_⟩; simp (maxSteps := 4000000) only [go_sem]))); refine hK _ ?_; clear hK K) | refine z20 ?_ | refine z22 ?_ | refine z17 ?_ | refine z15 ?_ | refine z13 rfl ?_ | refine z19 ?_ | refine z10 ?_ | refine z23 ?_ | refine z18 ?_ | refine z11 ?_)
  refine z29 (fun (i : Nat) => [(26, .d (.i (i : Int)))]) (fun i => [(7, some (.box (.d (.i 0) :: (lefts k i).map fun n => .d (.i n))))]) (fun i => i ≤ k.batches.length) (fun i => k.batches.length - i) 0 ?_ (Nat.zero_le _) ?_
  · simp (maxSteps := 4000000) only [go_sem]
    refine z26 [] ?_ ?_ rfl rfl <;> simp [lessT, lessM, lessB, AV.less, lefts]
  · intro i hi
    have hll := lefts_len (k := k) (i := i) (by omega)
    simp (maxSteps := 4000000) only [go_sem]
    repeat (first | refine z21 ?_ | refine z16 ?_ | refine z14 ?_ | (refine z12 fun K hK => ?_; simp (maxSteps := 4000000) only [go_sem]; refine hK _ ?_; clear hK K) | refine z20 ?_ | refine z22 ?_ | refine z17 ?_ | refine z15 ?_ | refine z13 rfl ?_ | refine z19 ?_ | refine z10 ?_ | refine z23 ?_ | refine z18 ?_ | refine z11 ?_)
    refine z27 rfl (fun hb => ?_) (fun hb => ?_)
    · have hlt : i < k.batches.length := by simpa using hb
      have hw : IntKind.i64.wrap ((i : Int) + 1) = ((i + 1 : Nat) : Int) := by rw [z30 (by omega)]; simp
      have gb := z169 hlt
      rw [Batch.row] at gb
      have hni : ¬ ((i : Int) < 0) := by omega
      have hi10 : i < 10 := by omega
      have hst := lefts_set hlt hbl
      have hsp : List.take (1 + i) (AV.d (DV.i 0) :: (lefts k i).map fun n => AV.d (DV.i n)) ++ AV.d (DV.i (batAt k i).amount) :: List.drop (1 + i) ((lefts k i).map fun n => AV.d (DV.i n)) = AV.d (DV.i 0) :: (lefts k (i + 1)).map fun n => AV.d (DV.i n) := by
        rw [← hst, List.map_set, List.set_eq_take_append_cons_drop, if_pos (by simp; omega), Nat.add_comm, List.take_succ_cons]
        rfl
      have h1i : 1 + i ≤ 10 := by omega
      obtain ⟨y0, y1, y2, y3, y4, y5, y6, y7, y8, y9, hy⟩ := ten (lefts_len (k := k) (i := i + 1) (by omega))
      rw [hy] at hsp
      simp only [List.map_cons, List.map_nil] at hsp
      repeat (first | refine z21 ?_ | refine z16 ?_ | refine z14 ?_ | (refine z12 fun K hK => ?_; simp (maxSteps := 4000000) only [go_sem, gb, hni, hi10, hll, h1i, hsp, hw]; refine hK _ ?_; clear hK K) | refine z20 ?_ | refine z22 ?_ | refine z17 ?_ | refine z15 ?_ | refine z13 rfl ?_ | refine z19 ?_ | refine z10 ?_ | refine z23 ?_ | refine z18 ?_ | refine z11 ?_)
      refine ⟨rfl, i + 1, ?_, hlt, by omega⟩
      simp only [hy, List.map_cons, List.map_nil]
      refine z26 [] ?_ ?_ rfl rfl <;> simp [lessT, lessM, lessB, AV.less]
    · have he : i = k.batches.length := by (have : ¬ i < k.batches.length := by simpa using hb); omega
      subst he
      have hpd : (lefts k k.batches.length) = pad10 (amtK k) := lefts_all k
      obtain ⟨x0, x1, x2, x3, x4, x5, x6, x7, x8, x9, hx⟩ := ten (z118 (l := amtK k) (by rw [z140]; omega))
      rw [hpd, hx]
      have h40 := zf40 k hg k.days.length (Nat.le_refl _) (amtK k) ([], 0) (z140 k) (z299 hg)
      obtain ⟨g1, g2⟩ := z224 hg k.days.length (Nat.le_refl _) (amtK k) (z140 k) (z299 hg) ([], 0) (goodT_nil k)
      obtain ⟨⟨wv, wm⟩, es, c, hbm⟩ : ∃ p es c, bestM k k.days.length (amtK k) ([], 0) = (p, es, c) := ⟨_, _, _, rfl⟩
      rw [hbm] at h40 g1 g2
      rw [hx, Nat.sub_self, plannerRow] at h40
      dsimp only [planR, List.map_cons, List.map_nil] at h40
      simp only [List.map_cons, List.map_nil] at h40 ⊢
      dsimp only at g1 g2
      have hwv : wasteK k = wv := by rw [wasteK, ← g1]
      rw [hwv]
      change FnG Try.prog 40 [_, .mp (some 11) [] 0] [0] _ _ _ at h40
      repeat (first | refine z21 ?_ | refine z16 ?_ | refine z14 ?_ | refine z20 ?_ | refine z10 ?_ | refine z11 ?_ | refine z17 ?_ | refine z15 ?_ | refine z18 ?_)
      refine z12 fun K hK => ?_
      simp (maxSteps := 4000000) only [go_sem]
      refine ⟨_, .own (ns := [22, 20]) (news := []) (bads := [20]) (rd := []) (hf := h40) (hnd := by decide) (hl0 := rfl) (hl1 := rfl) (hm := by repeat (first | exact trivial | refine And.intro ?_ ?_ | rfl)) (hnew := rfl) (hla := rfl) (ha := z42 (by repeat (first | exact trivial | refine And.intro ?_ ?_ | exact z45 rfl | exact z39 rfl rfl))) (hrd := rfl) (hsh := z40 _) (hb := rfl) (hfl := .inl rfl), ?_⟩
      simp (maxSteps := 4000000) only [go_sem, List.map_cons, List.map_nil]
      refine hK _ ?_
      clear hK K
      by_cases hge : wv ≥ 1099511627776
      · have hd : decide (wv ≥ 1099511627776) = true := decide_eq_true hge
        rw [if_pos hge]
        repeat (first | refine z25 rfl ?_ | refine z24 rfl ?_ | refine z21 ?_ | refine z16 ?_ | refine z14 ?_ | (refine z12 fun K hK => ?_; simp (maxSteps := 4000000) only [go_sem, hd]; refine hK _ ?_; clear hK K) | refine z20 ?_ | refine z22 ?_ | refine z17 ?_ | refine z15 ?_ | refine z13 rfl ?_ | refine z19 ?_ | refine z10 ?_ | refine z23 ?_ | refine z18 ?_ | refine z11 ?_)
        simp (maxSteps := 4000000) only [go_sem, listRows, List.map_nil]
      have hd : decide (wv ≥ 1099511627776) = false := decide_eq_false hge
      rw [if_neg hge]
      have h41 : FnG Try.prog 41 [] [] (List.map AV.d [.agg k.cells]) _ _ := zf41 k hbl
      simp only [lardRow] at h41
      rw [Kitchen.cells] at h41
      dsimp only
      repeat (first | refine z25 rfl ?_ | refine z24 rfl ?_ | refine z21 ?_ | refine z16 ?_ | refine z14 ?_ | (refine z12 fun K hK => ?_; simp (maxSteps := 4000000) only [go_sem, hd]; refine hK _ ?_; clear hK K) | refine z20 ?_ | refine z22 ?_ | refine z17 ?_ | refine z15 ?_ | refine z13 rfl ?_ | refine z19 ?_ | refine z10 ?_ | refine z23 ?_ | refine z18 ?_ | refine z11 ?_)
      refine z12 fun K hK => ?_
      simp (maxSteps := 4000000) only [go_sem]
      refine ⟨_, .made (news := [47, 13, 14]) (hf := h41) (hd := rfl) (hn := by decide) (hl := rfl) (hnew := rfl) (hx := rfl), ?_⟩
      simp (maxSteps := 4000000) only [go_sem, List.map_cons, List.map_nil]
      refine hK _ ?_
      clear hK K
      repeat (first | refine z21 ?_ | refine z16 ?_ | refine z14 ?_ | (refine z12 fun K hK => ?_; simp (maxSteps := 4000000) only [go_sem]; refine hK _ ?_; clear hK K) | refine z20 ?_ | refine z22 ?_ | refine z17 ?_ | refine z15 ?_ | refine z13 rfl ?_ | refine z19 ?_ | refine z10 ?_ | refine z23 ?_ | refine z18 ?_ | refine z11 ?_)
      refine z29 (fun (q : Nat × Int × (List EntK × Nat) × List Int × Int) => [(51, .d (.i (q.1 : Int))), (2, .own 82)])
        (fun q => [(47, some (.box [.d (.sl (intRows k.allerg)), .d (.sl (batRows k.batches)), .d (.sl (dishRows k.dishes)), .d (.sl (dayRows k.days)), .own 13, .own 14, .d (.i q.2.1)])), (13, some (.arr 3 1 (intRows (planL k q.1).1))),
          (20, some (.mp (some 11) (memK q.2.2.1.1) q.2.2.1.2)), (7, some (.box (.d (.i q.2.2.2.2) :: (pad10 q.2.2.2.1).map fun n => .d (.i n)))), (82, some (.arr 22 1 (listRows (planL k q.1).2)))])
        (fun q => q.1 ≤ k.days.length ∧ GoodT k q.2.2.1.1 ∧ (0 ≤ q.2.1 ∧ q.2.1 ≤ 10000000 * q.1) ∧ q.2.2.2.1.length = k.batches.length) (fun q => k.days.length - q.1) (0, 0, (es, c), amtK k, 0) ?_ ⟨Nat.zero_le _, g2, ⟨Int.le_refl _, Int.le_refl _⟩, z140 k⟩ ?_
      · simp (maxSteps := 4000000) only [go_sem, hx, List.map_cons, List.map_nil]
        refine z26 [82] ?_ ?_ rfl rfl <;> simp [lessT, lessM, lessB, AV.less, planL, listRows]
      · rintro ⟨i, w, ⟨es, c⟩, pv, e⟩ ⟨hi, hgt, ⟨hw0, hw1⟩, hpv⟩
        dsimp only at hi hgt hw0 hw1 hpv
        obtain ⟨z0, z1, z2, z3, z4, z5, z6, z7, z8, z9, hz⟩ := ten (z118 (l := pv) (by omega))
        obtain ⟨p1, p2⟩ := planL_ok hg i hi
        simp (maxSteps := 4000000) only [go_sem, hz, List.map_cons, List.map_nil]
        repeat (first | refine z21 ?_ | refine z16 ?_ | refine z14 ?_ | (refine z12 fun K hK => ?_; simp (maxSteps := 4000000) only [go_sem]; refine hK _ ?_; clear hK K) | refine z20 ?_ | refine z22 ?_ | refine z17 ?_ | refine z15 ?_ | refine z13 rfl ?_ | refine z19 ?_ | refine z10 ?_ | refine z23 ?_ | refine z18 ?_ | refine z11 ?_)
        refine z27 rfl (fun hb => ?_) (fun hb => ?_)
        · have hlt : i < k.days.length := by simpa using hb
          have hw : IntKind.i64.wrap ((i : Int) + 1) = ((i + 1 : Nat) : Int) := by rw [z30 (by omega)]; simp
          obtain ⟨L, hL⟩ : ∃ L, L = (planL k i).1 := ⟨_, rfl⟩
          have hps := planL_at k i
          rw [← hL] at p1 p2 hps ⊢
          have hL10 : L.length ≤ 10 := by omega
          obtain ⟨y0, y1, y2, y3, y4, y5, y6, y7, y8, y9, hy⟩ := ten (z118 (l := L) hL10)
          have hcp := copy10p (c := L) (p := pv) hL10 (by omega) (.d (.i e))
          rw [hy, hz] at hcp
          simp only [List.map_cons, List.map_nil] at hcp
          have hi1 : headIs 1 (intRows L) = true := by cases L <;> rfl
          have hir : k.days.length - (k.days.length - i) = i := by omega
          have h40 := zf40 k hg (k.days.length - i) (by omega) L (es, c) p2 p1
          obtain ⟨g1, g2⟩ := z224 hg (k.days.length - i) (by omega) L p2 p1 (es, c) hgt
          obtain ⟨m1, m2⟩ := bestN_menu hg hlt p2 p1
          obtain ⟨⟨wv2, wm2⟩, es2, c2, hbm2⟩ : ∃ p es2 c2, bestM k (k.days.length - i) L (es, c) = (p, es2, c2) := ⟨_, _, _, rfl⟩
          rw [hbm2] at h40 g1 g2
          dsimp only at g1 g2
          rw [← g1] at m1 m2 hps
          dsimp only at m1 m2 hps
          rw [hir, hy, plannerRow] at h40
          dsimp only [planR, List.map_cons, List.map_nil] at h40
          simp only [List.map_cons, List.map_nil] at h40
          have h42 := zf42 k hbl (i : Int) L (ordK k) w p2 p1 ⟨hw0, by omega⟩
          obtain ⟨c1, c2', c3⟩ := z63 (k := k) (day := (i : Int)) (w := w) p1 k.batches.length
          have c4 := z54 k (i : Int) L w k.batches.length
          have c5 : (clr0 k i L).1 = (clrTo k (i : Int) L w k.batches.length).1 := by rw [clr0, ← clrTo_w]
          rw [c5] at hps
          obtain ⟨⟨C, v⟩, hC⟩ : ∃ a, a = clrTo k (i : Int) L w k.batches.length := ⟨_, rfl⟩
          rw [← hC] at h42 c1 c2' c3 c4 hps
          dsimp only at c1 c2' c3 c4 hps
          have h44 := zf44 k hg wm2 (hiN k i) 45 [.ptr [.ptr (k.cells ++ [.any]) 0] 0, .ptr [.i (i : Int)] 0] m1 (fun j hj => zf45 k i j hlt (by omega))
          have h43 := zf43 k (needL k wm2 (hiN k i)) C (ordK k) v (by omega) hbl c1 (z75 hg m1) (by rw [z65]; exact hg.goods.2) (fun x hx => z129 hx) (by rw [z161]; exact hbl)
          rw [z65] at h43
          rw [Kitchen.cells] at h44
          dsimp only [List.cons_append, List.nil_append] at h44
          simp only [lardRow] at h42
          unfold takeD at hps
          obtain ⟨NN, hNN⟩ : ∃ NN, NN = needL k wm2 (hiN k i) := ⟨_, rfl⟩
          rw [← hNN] at h44 h43 hps
          obtain ⟨ms, hms⟩ : ∃ ms, ms = (planL k i).2 := ⟨_, rfl⟩
          have hap : listRows ms ++ [[.sl (intRows wm2)]] = listRows (ms ++ [wm2]) := by simp [listRows]
          have hml : ms.length + 1 ≤ 549755813888 := by rw [hms, planL_len]; omega
          rw [← hms] at hps ⊢
          repeat (first | refine z21 ?_ | refine z16 ?_ | refine z14 ?_ | (refine z12 fun K hK => ?_; simp (maxSteps := 4000000) only [go_sem]; refine hK _ ?_; clear hK K) | refine z20 ?_ | refine z22 ?_ | refine z17 ?_ | refine z15 ?_ | refine z13 rfl ?_ | refine z19 ?_ | refine z10 ?_ | refine z23 ?_ | refine z18 ?_ | refine z11 ?_)
          refine z28 (by kernel_rfl) (by kernel_rfl) fun K hK => ?_
          simp (maxSteps := 4000000) only [go_sem, hi1, z32, hcp]
          refine ⟨by kernel_rfl, hK _ ?_⟩
          clear hK K
          repeat (first | refine z21 ?_ | refine z16 ?_ | refine z14 ?_ | refine z20 ?_ | refine z10 ?_ | refine z11 ?_)
          refine z12 fun K hK => ?_
          simp (maxSteps := 4000000) only [go_sem]
          refine hK _ ?_
          clear hK K
          repeat (first | refine z21 ?_ | refine z16 ?_ | refine z14 ?_ | refine z20 ?_ | refine z10 ?_ | refine z11 ?_)
          refine z12 fun K hK => ?_
          simp (maxSteps := 4000000) only [go_sem]
          refine ⟨_, .own (ns := [22, 20]) (news := []) (bads := [20]) (rd := []) (hf := h40) (hnd := by decide) (hl0 := rfl) (hl1 := rfl) (hm := by repeat (first | exact trivial | refine And.intro ?_ ?_ | rfl)) (hnew := rfl) (hla := rfl) (ha := z42 (by repeat (first | exact trivial | refine And.intro ?_ ?_ | exact z45 rfl | exact z39 rfl rfl))) (hrd := rfl) (hsh := z40 _) (hb := rfl) (hfl := .inl rfl), ?_⟩
          simp (maxSteps := 4000000) only [go_sem, List.map_cons, List.map_nil]
          refine hK _ ?_
          clear hK K
          repeat (first | refine z21 ?_ | refine z16 ?_ | refine z14 ?_ | refine z20 ?_ | refine z10 ?_ | refine z11 ?_)
          refine z12 fun K hK => ?_
          simp (maxSteps := 4000000) only [go_sem]
          refine ⟨_, .own (ns := [47, 13, 14]) (news := []) (bads := [13, 14]) (rd := []) (hf := h42) (hnd := by decide) (hl0 := rfl) (hl1 := rfl) (hm := by repeat (first | exact trivial | refine And.intro ?_ ?_ | rfl)) (hnew := rfl) (hla := rfl) (ha := z42 (by repeat (first | exact trivial | refine And.intro ?_ ?_ | exact z45 rfl | exact z39 rfl rfl))) (hrd := rfl) (hsh := z40 _) (hb := rfl) (hfl := .inl rfl), ?_⟩
          simp (maxSteps := 4000000) only [go_sem, List.map_cons, List.map_nil]
          refine hK _ ?_
          clear hK K
          cases htk : takeTo k (ordK k) NN C k.allerg.length with
          | none =>
            rw [htk] at h43 hps
            simp only [takeBlks, lardRow, Option.isSome_none] at h43
            rw [Option.getD_none] at hps
            repeat (first | refine z21 ?_ | refine z16 ?_ | refine z14 ?_ | refine z20 ?_ | refine z10 ?_ | refine z11 ?_)
            refine z185 8 fun K hK => ?_
            simp (maxSteps := 4000000) only [go_sem]
            refine ⟨_, .lentS (hdst := rfl) (hf := h44) (hd := rfl) (hr := z47 _) (hfr := rfl), ?_⟩
            simp (maxSteps := 4000000) only [go_sem]
            refine ⟨_, z91 [77] _, ?_⟩
            simp (maxSteps := 4000000) only [go_sem]
            refine ⟨_, .own (ns := [47, 13, 14]) (news := []) (bads := [13, 14]) (rd := []) (hf := h43) (hnd := by decide) (hl0 := rfl) (hl1 := rfl) (hm := by repeat (first | exact trivial | refine And.intro ?_ ?_ | rfl)) (hnew := rfl) (hla := rfl) (ha := z42 (by repeat (first | exact trivial | refine And.intro ?_ ?_ | exact z45 rfl | exact z39 rfl rfl))) (hrd := rfl) (hsh := z40 _) (hb := rfl) (hfl := .inl rfl), ?_⟩
            simp (maxSteps := 4000000) only [go_sem, List.map_cons, List.map_nil]
            refine hK _ ?_
            clear hK K
            repeat (first | refine z21 ?_ | refine z16 ?_ | refine z14 ?_ | (refine z12 fun K hK => ?_; simp (maxSteps := 4000000) only [go_sem, hml, hap, hw, z37]; refine hK _ ?_; clear hK K) | refine z20 ?_ | refine z22 ?_ | refine z17 ?_ | refine z15 ?_ | refine z13 rfl ?_ | refine z19 ?_ | refine z10 ?_ | refine z23 ?_ | refine z18 ?_ | refine z11 ?_)
            refine ⟨rfl, (i + 1, v, (es2, c2), L, (i : Int)), ?_, ⟨hlt, g2, ⟨by dsimp only; omega, by dsimp only; push_cast; omega⟩, p2⟩, by dsimp only; omega⟩
            dsimp only
            rw [hps]
            simp (maxSteps := 4000000) only [go_sem, hy, List.map_cons, List.map_nil]
            refine z26 [] ?_ ?_ rfl rfl <;> simp [lessT, lessM, lessB, AV.less]
          | some c' =>
            rw [htk] at h43 hps
            simp only [takeBlks, lardRow, Option.isSome_some] at h43
            rw [Option.getD_some] at hps
            repeat (first | refine z21 ?_ | refine z16 ?_ | refine z14 ?_ | refine z20 ?_ | refine z10 ?_ | refine z11 ?_)
            refine z185 8 fun K hK => ?_
            simp (maxSteps := 4000000) only [go_sem]
            refine ⟨_, .lentS (hdst := rfl) (hf := h44) (hd := rfl) (hr := z47 _) (hfr := rfl), ?_⟩
            simp (maxSteps := 4000000) only [go_sem]
            refine ⟨_, z91 [77] _, ?_⟩
            simp (maxSteps := 4000000) only [go_sem]
            refine ⟨_, .own (ns := [47, 13, 14]) (news := [15]) (bads := [13, 14]) (rd := []) (hf := h43) (hnd := by decide) (hl0 := rfl) (hl1 := rfl) (hm := by repeat (first | exact trivial | refine And.intro ?_ ?_ | rfl)) (hnew := rfl) (hla := rfl) (ha := z42 (by repeat (first | exact trivial | refine And.intro ?_ ?_ | exact z45 rfl | exact z39 rfl rfl))) (hrd := rfl) (hsh := z40 _) (hb := rfl) (hfl := .inl rfl), ?_⟩
            simp (maxSteps := 4000000) only [go_sem, List.map_cons, List.map_nil]
            refine hK _ ?_
            clear hK K
            refine walkL_head [] [] [(13, none)] ?_ ?_
            · simp (maxSteps := 4000000) only [go_sem]
              refine z26 [] ?_ ?_ rfl rfl <;> simp [lessT, lessM, lessB, AV.less]
            simp (maxSteps := 4000000) only [go_sem]
            refine walkL_rename 15 13 ?_
            simp (maxSteps := 4000000) only [go_sem]
            repeat (first | refine z21 ?_ | refine z16 ?_ | refine z14 ?_ | (refine z12 fun K hK => ?_; simp (maxSteps := 4000000) only [go_sem, hml, hap, hw, z37]; refine hK _ ?_; clear hK K) | refine z20 ?_ | refine z22 ?_ | refine z17 ?_ | refine z15 ?_ | refine z13 rfl ?_ | refine z19 ?_ | refine z10 ?_ | refine z23 ?_ | refine z18 ?_ | refine z11 ?_)
            refine ⟨rfl, (i + 1, v, (es2, c2), L, (i : Int)), ?_, ⟨hlt, g2, ⟨by dsimp only; omega, by dsimp only; push_cast; omega⟩, p2⟩, by dsimp only; omega⟩
            dsimp only
            rw [hps]
            simp (maxSteps := 4000000) only [go_sem, hy, List.map_cons, List.map_nil]
            refine z26 [] ?_ ?_ rfl rfl <;> simp [lessT, lessM, lessB, AV.less]
        · have he : i = k.days.length := by (have : ¬ i < k.days.length := by simpa using hb); omega
          subst he
          repeat (first | refine z21 ?_ | refine z16 ?_ | refine z14 ?_ | (refine z12 fun K hK => ?_; simp (maxSteps := 4000000) only [go_sem]; refine hK _ ?_; clear hK K) | refine z20 ?_ | refine z22 ?_ | refine z17 ?_ | refine z15 ?_ | refine z13 rfl ?_ | refine z19 ?_ | refine z10 ?_ | refine z23 ?_ | refine z18 ?_ | refine z11 ?_)
          simp (maxSteps := 4000000) only [go_sem]
end Go.Ab
namespace Go.Ab
open Go.RowKit Go.Proofs
set_option maxHeartbeats 16000000
set_option maxRecDepth 20000
attribute [local irreducible] WalkL Walk
def countB (n : Int) (g : Diners) : Bool := withinB n g.count.lo g.count.hi
theorem zf53 (n : Int) (g : Diners) : Fn Try.prog 53 [.i n, .agg g.row] (.bool (countB n g)) := by
  have h := zf54 n g.count.lo g.count.hi
  unfold countB
  refine z31 13 Try.call53 Try.func53 rfl (by decide) fun J => ?_
  simp (maxSteps := 4000000) only [go_sem, St.start, Try.ntmps53, Try.results53, Diners.row]
  repeat (first | refine z21 ?_ | refine z16 ?_ | refine z14 ?_ | (refine z12 fun K hK => ?_; simp (maxSteps := 4000000) only [go_sem]; (repeat (first | (refine ⟨_, .lent (hf := h) (hd := rfl) (hr := rfl), ?_⟩; simp (maxSteps := 4000000) only [go_sem]) | (refine ⟨_, .given (hf := h) (hd := rfl) (ha := rfl), ?_⟩; simp (maxSteps := 4000000) only [go_sem]))); refine hK _ ?_; clear hK K) | refine z20 ?_ | refine z22 ?_ | refine z17 ?_ | refine z15 ?_ | refine z13 rfl ?_ | refine z19 ?_ | refine z10 ?_ | refine z23 ?_ | refine z18 ?_ | refine z11 ?_)
  simp (maxSteps := 4000000) only [go_sem]
theorem zf52c (k : Kitchen) (hg : KitGood k) (M : List (List Int)) (hM : M.length < 2 ^ 30) (hMr : ∀ r ∈ M, r.length < 2 ^ 30) : Fn Try.prog 52 [.agg k.cells, .sl (listRows M), .fn 53 []] (.bool (shapedB (countB) M k.days)) := by
  have hdd := hg.days
  have hgr := hg.groups
  obtain ⟨q, hq⟩ : ∃ q, q = countB := ⟨_, rfl⟩
  have h137 := fun (n : Int) (g : Diners) => zf53 n g
  simp only [← hq] at h137
  rw [← hq]
  obtain ⟨R, hR⟩ : ∃ R, R = shapedB q M k.days := ⟨_, rfl⟩
  rw [← hR]
  cases q1 : ((M.length : Int) != (k.days.length : Int))
  · have hl : M.length = k.days.length := by
      simp only [bne_eq_false_iff_eq] at q1
      omega
    refine z31 55 Try.call52 Try.func52 rfl (by decide) fun J => ?_
    simp (maxSteps := 4000000) only [go_sem, St.start, Try.ntmps52, Try.results52, Kitchen.cells]
    repeat (first | refine z25 rfl ?_ | refine z24 rfl ?_ | refine z21 ?_ | refine z16 ?_ | refine z14 ?_ | (refine z12 fun K hK => ?_; simp (maxSteps := 4000000) only [go_sem, q1]; refine hK _ ?_; clear hK K) | refine z20 ?_ | refine z22 ?_ | refine z17 ?_ | refine z15 ?_ | refine z13 rfl ?_ | refine z19 ?_ | refine z10 ?_ | refine z23 ?_ | refine z18 ?_ | refine z11 ?_)
    refine z29 (fun (i : Nat) => [(22, .d (.i (i : Int)))]) (fun _ => []) (fun i => i ≤ k.days.length ∧ R = shapedB q (M.drop i) (k.days.drop i)) (fun i => k.days.length - i) 0 ?_ ⟨Nat.zero_le _, hR⟩ ?_
    · simp (maxSteps := 4000000) only [go_sem]
      refine z26 [] ?_ ?_ rfl rfl <;> simp [lessT, lessM, lessB, AV.less]
    · rintro i ⟨hi, hRi⟩
      simp (maxSteps := 4000000) only [go_sem]
      repeat (first | refine z21 ?_ | refine z16 ?_ | refine z14 ?_ | (refine z12 fun K hK => ?_; simp (maxSteps := 4000000) only [go_sem]; refine hK _ ?_; clear hK K) | refine z20 ?_ | refine z22 ?_ | refine z17 ?_ | refine z15 ?_ | refine z13 rfl ?_ | refine z19 ?_ | refine z10 ?_ | refine z23 ?_ | refine z18 ?_ | refine z11 ?_)
      refine z27 rfl (fun hb => ?_) (fun hb => ?_)
      · have hlt : i < k.days.length := by simpa using hb
        have hw : IntKind.i64.wrap ((i : Int) + 1) = ((i + 1 : Nat) : Int) := by rw [z30 (by omega)]; simp
        obtain ⟨d, hd⟩ : ∃ d, k.days[i]? = some d := ⟨_, List.getElem?_eq_getElem hlt⟩
        obtain ⟨r, hr⟩ : ∃ r, M[i]? = some r := ⟨_, List.getElem?_eq_getElem (by omega)⟩
        have g1 := z72 hd
        have g2 := z48 hr
        have hni : ¬ ((i : Int) < 0) := by omega
        have hd3 := (hgr d (List.mem_of_getElem? hd)).1
        rw [z36 hd, z36 hr, shapedB] at hRi
        cases q2 : ((r.length : Int) != (d.length : Int))
        · have hrl : r.length = d.length := by
            simp only [bne_eq_false_iff_eq] at q2
            omega
          repeat (first | refine z25 rfl ?_ | refine z24 rfl ?_ | refine z21 ?_ | refine z16 ?_ | refine z14 ?_ | (refine z12 fun K hK => ?_; simp (maxSteps := 4000000) only [go_sem, g1, g2, hni, q2]; refine hK _ ?_; clear hK K) | refine z20 ?_ | refine z22 ?_ | refine z17 ?_ | refine z15 ?_ | refine z13 rfl ?_ | refine z19 ?_ | refine z10 ?_ | refine z23 ?_ | refine z18 ?_ | refine z11 ?_)
          refine z29 (fun (j : Nat) => [(37, .d (.i (j : Int)))]) (fun _ => []) (fun j => j ≤ d.length ∧ R = (rowOk q (r.drop j) (d.drop j) && shapedB q (M.drop (i + 1)) (k.days.drop (i + 1)))) (fun j => d.length - j) 0 ?_ ⟨Nat.zero_le _, hRi⟩ ?_
          · simp (maxSteps := 4000000) only [go_sem]
            refine z26 [] ?_ ?_ rfl rfl <;> simp [lessT, lessM, lessB, AV.less]
          · rintro j ⟨hj, hRj⟩
            simp (maxSteps := 4000000) only [go_sem]
            repeat (first | refine z21 ?_ | refine z16 ?_ | refine z14 ?_ | (refine z12 fun K hK => ?_; simp (maxSteps := 4000000) only [go_sem]; refine hK _ ?_; clear hK K) | refine z20 ?_ | refine z22 ?_ | refine z17 ?_ | refine z15 ?_ | refine z13 rfl ?_ | refine z19 ?_ | refine z10 ?_ | refine z23 ?_ | refine z18 ?_ | refine z11 ?_)
            refine z27 rfl (fun hb => ?_) (fun hb => ?_)
            · have hltj : j < d.length := by simpa using hb
              have hwj : IntKind.i64.wrap ((j : Int) + 1) = ((j + 1 : Nat) : Int) := by rw [z30 (by omega)]; simp
              obtain ⟨g, hgj⟩ : ∃ g, d[j]? = some g := ⟨_, List.getElem?_eq_getElem hltj⟩
              obtain ⟨n, hnj⟩ : ∃ n, r[j]? = some n := ⟨_, List.getElem?_eq_getElem (by omega)⟩
              have g3 := z88 hgj
              have g4 := z46 hnj
              rw [Diners.row] at g3
              have hnjj : ¬ ((j : Int) < 0) := by omega
              have hc := h137 n g
              rw [Diners.row] at hc
              rw [z36 hgj, z36 hnj, rowOk] at hRj
              cases q3 : q n g
              · rw [q3] at hRj hc
                rw [Bool.false_and, Bool.false_and] at hRj
                rw [hRj]
                repeat (first | refine z21 ?_ | refine z16 ?_ | refine z14 ?_ | (refine z12 fun K hK => ?_; simp (maxSteps := 4000000) only [go_sem, g3]; refine hK _ ?_; clear hK K) | refine z20 ?_ | refine z22 ?_ | refine z17 ?_ | refine z15 ?_ | refine z13 rfl ?_ | refine z19 ?_ | refine z10 ?_ | refine z23 ?_ | refine z18 ?_ | refine z11 ?_)
                refine z28 (by kernel_rfl) (by kernel_rfl) fun K hK => ?_
                simp (maxSteps := 4000000) only [go_sem, g2, g4, hni, hnjj]
                refine ⟨_, .fn (hf := hc) (hd := rfl) (hr := .inl rfl), ?_⟩
                simp (maxSteps := 4000000) only [go_sem]
                refine ⟨by kernel_rfl, hK _ ?_⟩
                clear hK K
                repeat (first | refine z25 rfl ?_ | refine z24 rfl ?_ | refine z21 ?_ | refine z16 ?_ | refine z14 ?_ | (refine z12 fun K hK => ?_; simp (maxSteps := 4000000) only [go_sem]; refine hK _ ?_; clear hK K) | refine z20 ?_ | refine z22 ?_ | refine z17 ?_ | refine z15 ?_ | refine z13 rfl ?_ | refine z19 ?_ | refine z10 ?_ | refine z23 ?_ | refine z18 ?_ | refine z11 ?_)
                simp (maxSteps := 4000000) only [go_sem]
              · rw [q3] at hRj hc
                rw [Bool.true_and] at hRj
                repeat (first | refine z21 ?_ | refine z16 ?_ | refine z14 ?_ | (refine z12 fun K hK => ?_; simp (maxSteps := 4000000) only [go_sem, g3]; refine hK _ ?_; clear hK K) | refine z20 ?_ | refine z22 ?_ | refine z17 ?_ | refine z15 ?_ | refine z13 rfl ?_ | refine z19 ?_ | refine z10 ?_ | refine z23 ?_ | refine z18 ?_ | refine z11 ?_)
                refine z28 (by kernel_rfl) (by kernel_rfl) fun K hK => ?_
                simp (maxSteps := 4000000) only [go_sem, g2, g4, hni, hnjj]
                refine ⟨_, .fn (hf := hc) (hd := rfl) (hr := .inl rfl), ?_⟩
                simp (maxSteps := 4000000) only [go_sem]
                refine ⟨by kernel_rfl, hK _ ?_⟩
                clear hK K
                repeat (first | refine z25 rfl ?_ | refine z24 rfl ?_ | refine z21 ?_ | refine z16 ?_ | refine z14 ?_ | (refine z12 fun K hK => ?_; simp (maxSteps := 4000000) only [go_sem, hwj]; refine hK _ ?_; clear hK K) | refine z20 ?_ | refine z22 ?_ | refine z17 ?_ | refine z15 ?_ | refine z13 rfl ?_ | refine z19 ?_ | refine z10 ?_ | refine z23 ?_ | refine z18 ?_ | refine z11 ?_)
                refine ⟨rfl, j + 1, ?_, ⟨hltj, hRj⟩, by omega⟩
                refine z26 [] ?_ ?_ rfl rfl <;> simp [lessT, lessM, lessB, AV.less]
            · have he : j = d.length := by (have : ¬ j < d.length := by simpa using hb); omega
              subst he
              rw [List.drop_length, ← hrl, List.drop_length, rowOk, Bool.true_and] at hRj
              repeat (first | refine z21 ?_ | refine z16 ?_ | refine z14 ?_ | (refine z12 fun K hK => ?_; simp (maxSteps := 4000000) only [go_sem, hw]; refine hK _ ?_; clear hK K) | refine z20 ?_ | refine z22 ?_ | refine z17 ?_ | refine z15 ?_ | refine z13 rfl ?_ | refine z19 ?_ | refine z10 ?_ | refine z23 ?_ | refine z18 ?_ | refine z11 ?_)
              refine ⟨rfl, i + 1, ?_, ⟨hlt, hRj⟩, by omega⟩
              refine z26 [] ?_ ?_ rfl rfl <;> simp [lessT, lessM, lessB, AV.less]
        · have hf : rowOk q r d = false := by
            cases hx : rowOk q r d with
            | false => rfl
            | true =>
              have := z73 hx
              rw [this] at q2
              simp at q2
          rw [hf, Bool.false_and] at hRi
          rw [hRi]
          repeat (first | refine z25 rfl ?_ | refine z24 rfl ?_ | refine z21 ?_ | refine z16 ?_ | refine z14 ?_ | (refine z12 fun K hK => ?_; simp (maxSteps := 4000000) only [go_sem, g1, g2, hni, q2]; refine hK _ ?_; clear hK K) | refine z20 ?_ | refine z22 ?_ | refine z17 ?_ | refine z15 ?_ | refine z13 rfl ?_ | refine z19 ?_ | refine z10 ?_ | refine z23 ?_ | refine z18 ?_ | refine z11 ?_)
          simp (maxSteps := 4000000) only [go_sem]
      · have he : i = k.days.length := by (have : ¬ i < k.days.length := by simpa using hb); omega
        subst he
        rw [List.drop_length, ← hl, List.drop_length, shapedB] at hRi
        rw [hRi]
        repeat (first | refine z21 ?_ | refine z16 ?_ | refine z14 ?_ | (refine z12 fun K hK => ?_; simp (maxSteps := 4000000) only [go_sem]; refine hK _ ?_; clear hK K) | refine z20 ?_ | refine z22 ?_ | refine z17 ?_ | refine z15 ?_ | refine z13 rfl ?_ | refine z19 ?_ | refine z10 ?_ | refine z23 ?_ | refine z18 ?_ | refine z11 ?_)
        simp (maxSteps := 4000000) only [go_sem]
  · have hf : R = false := by
      rw [hR]
      cases hx : shapedB q M k.days with
      | false => rfl
      | true =>
        have := z52 hx
        rw [this] at q1
        simp at q1
    rw [hf]
    refine z31 55 Try.call52 Try.func52 rfl (by decide) fun J => ?_
    simp (maxSteps := 4000000) only [go_sem, St.start, Try.ntmps52, Try.results52, Kitchen.cells]
    repeat (first | refine z25 rfl ?_ | refine z24 rfl ?_ | refine z21 ?_ | refine z16 ?_ | refine z14 ?_ | (refine z12 fun K hK => ?_; simp (maxSteps := 4000000) only [go_sem, q1]; refine hK _ ?_; clear hK K) | refine z20 ?_ | refine z22 ?_ | refine z17 ?_ | refine z15 ?_ | refine z13 rfl ?_ | refine z19 ?_ | refine z10 ?_ | refine z23 ?_ | refine z18 ?_ | refine z11 ?_)
    simp (maxSteps := 4000000) only [go_sem]
def cntOf (C : List (List Int)) (d g : Nat) : Int := getI (C.getD d []) (g : Int)
theorem zf56 (C : List (List Int)) (d g : Nat) (hd : d < C.length) (hg : g < (C.getD d []).length) : Fn Try.prog 56 [.i (d : Int), .i (g : Int), .ptr [.sl (listRows C)] 0] (.i (cntOf C d g)) := by
  have e : C.getD d [] = C[d] := by rw [List.getD, List.getElem?_eq_getElem hd]; rfl
  have g1 := z48 (List.getElem?_eq_getElem hd)
  unfold cntOf
  rw [e] at hg ⊢
  have g2 := z34 hg
  have n1 : ¬ ((d : Int) < 0) := by omega
  have n2 : ¬ ((g : Int) < 0) := by omega
  refine z31 13 Try.call56 Try.func56 rfl (by decide) fun J => ?_
  simp (maxSteps := 4000000) only [go_sem, St.start, Try.ntmps56, Try.results56]
  repeat (first | refine z21 ?_ | refine z16 ?_ | refine z14 ?_ | (refine z12 fun K hK => ?_; simp (maxSteps := 4000000) only [go_sem, g1, g2, n1, n2]; refine hK _ ?_; clear hK K) | refine z20 ?_ | refine z22 ?_ | refine z17 ?_ | refine z15 ?_ | refine z13 rfl ?_ | refine z19 ?_ | refine z10 ?_ | refine z23 ?_ | refine z18 ?_ | refine z11 ?_)
  simp (maxSteps := 4000000) only [go_sem]
theorem zf84c (C : List (List Int)) (d g : Nat) (hd : d < C.length) (hg : g < (C.getD d []).length) : Fn Try.prog 84 [.i (g : Int), .ptr [.fn 56 [.ptr [.sl (listRows C)] 0]] 0, .ptr [.i (d : Int)] 0] (.i (cntOf C d g)) := by
  have h := zf56 C d g hd hg
  refine z31 9 Try.call84 Try.func84 rfl (by decide) fun J => ?_
  simp (maxSteps := 4000000) only [go_sem, St.start, Try.ntmps84, Try.results84]
  repeat (first | refine z21 ?_ | refine z16 ?_ | refine z14 ?_ | (refine z12 fun K hK => ?_; simp (maxSteps := 4000000) only [go_sem]; (repeat (first | (refine ⟨_, .lent (hf := h) (hd := rfl) (hr := rfl), ?_⟩; simp (maxSteps := 4000000) only [go_sem]) | (refine ⟨_, .given (hf := h) (hd := rfl) (ha := rfl), ?_⟩; simp (maxSteps := 4000000) only [go_sem]))); refine hK _ ?_; clear hK K) | refine z20 ?_ | refine z22 ?_ | refine z17 ?_ | refine z15 ?_ | refine z13 rfl ?_ | refine z19 ?_ | refine z10 ?_ | refine z23 ?_ | refine z18 ?_ | refine z11 ?_)
  simp (maxSteps := 4000000) only [go_sem]
theorem cnt_ok {k : Kitchen} (hg : KitGood k) {C : List (List Int)} (hC : shapedB countB C k.days = true) : CntOk k (cntOf C) := ⟨fun d g hd hgl => by
  have hl := z52 hC
  obtain ⟨r, hr⟩ : ∃ r, C[d]? = some r := ⟨_, List.getElem?_eq_getElem (by omega)⟩
  obtain ⟨x, hx, hro⟩ := z145 hC hr
  have e : k.days.getD d [] = x := by rw [List.getD, hx]; rfl
  rw [e] at hgl
  have hrl := z73 hro
  obtain ⟨n, hn⟩ : ∃ n, r[g]? = some n := ⟨_, List.getElem?_eq_getElem (by omega)⟩
  obtain ⟨y, hy, hq⟩ := rowOk_at hro hn
  have hi := ((hg.groups x (List.mem_of_getElem? hx)).2 y (List.mem_of_getElem? hy)).2
  have hw := z51.1 hq
  have e2 : cntOf C d g = n := by rw [cntOf, List.getD, hr, Option.getD_some, getI, Int.toNat_natCast, List.getD, hn]; rfl
  rw [e2]
  omega⟩
theorem cnt_in {k : Kitchen} {C : List (List Int)} (hC : shapedB countB C k.days = true) {d g : Nat} (hd : d < k.days.length) (hgl : g < (k.days.getD d []).length) : d < C.length ∧ g < (C.getD d []).length := by
  have hl := z52 hC
  obtain ⟨r, hr⟩ : ∃ r, C[d]? = some r := ⟨_, List.getElem?_eq_getElem (by omega)⟩
  obtain ⟨x, hx, hro⟩ := z145 hC hr
  have e : k.days.getD d [] = x := by rw [List.getD, hx]; rfl
  rw [e] at hgl
  have hrl := z73 hro
  refine ⟨by omega, ?_⟩
  rw [List.getD, hr, Option.getD_some]
  omega
end Go.Ab
namespace Go.Ab
open Go.RowKit Go.Proofs
set_option maxHeartbeats 16000000
set_option maxRecDepth 20000
attribute [local irreducible] WalkL Walk
theorem zf55c (k : Kitchen) (hg : KitGood k) (M : List (List Int)) (hM : shapedB (menuB k) M k.days = true) (N : List (List Int)) (hN : shapedB countB N k.days = true) :
    FnG Try.prog 55 [.box (lardRow k (.own 1) (.own 2) 0), .arr 3 1 (intRows (amtK k)), .arr 3 1 (natRows (ordK k))] [0] [.box 0 0, .d (.sl (listRows M)), .d (.fn 56 [.ptr [.sl (listRows N)] 0])] (.d (.i (lastD k M (cntOf N) M.length : Nat))) (runBlks k M (cntOf N)) := by
  have hc := cnt_ok hg hN
  have hf84 := fun d g (hd : d < k.days.length) (hgl : g < (k.days.getD d []).length) => zf84c N d g (cnt_in hN hd hgl).1 (cnt_in hN hd hgl).2
  obtain ⟨cnt, hcnt⟩ : ∃ cnt, cnt = cntOf N := ⟨_, rfl⟩
  rw [← hcnt] at hc ⊢
  simp only [← hcnt] at hf84
  have hbl := hg.batches
  have hdl := hg.days
  have hMl := z52 hM
  have hgo := hg.goods
  obtain ⟨A0, hA0⟩ : ∃ a, a = left0 k := ⟨_, rfl⟩
  refine z79 33 Try.call55 Try.func55 rfl (by decide) [] [(0, 0)] (by simp only [List.length_cons, List.length_nil]; decide) (by kernel_rfl) fun J => ?_
  simp (maxSteps := 4000000) only [go_sem, St.startG, Try.ntmps55, Try.results55, List.map_cons, List.map_nil, List.range_succ,  lardRow]
  repeat (first | refine z21 ?_ | refine z16 ?_ | refine z14 ?_ | refine z20 ?_ | refine z10 ?_ | refine z11 ?_)
  refine z12 fun K hK => ?_
  simp (maxSteps := 4000000) only [go_sem]
  refine hK _ ?_
  clear hK K
  refine z38 [5] ?_
  simp (maxSteps := 4000000) only [go_sem]
  repeat (first | refine z21 ?_ | refine z16 ?_ | refine z14 ?_ | (refine z12 fun K hK => ?_; simp (maxSteps := 4000000) only [go_sem, z37]; refine hK _ ?_; clear hK K) | refine z20 ?_ | refine z22 ?_ | refine z17 ?_ | refine z15 ?_ | refine z13 rfl ?_ | refine z19 ?_ | refine z10 ?_ | refine z23 ?_ | refine z18 ?_ | refine z11 ?_)
  refine z29 (fun (q : Nat × Nat × List Int × Int) => [(11, .d (.i (q.1 : Int)))])
    (fun q => [(33, some (.box (lardRow k (.own (nmL q.2.1)) (.own 35) q.2.2.2))), (34, some (.arr 3 1 (intRows (if q.2.1 = 0 then q.2.2.1 else A0)))), (1, if q.2.1 = 1 then some (.arr 3 1 (intRows q.2.2.1)) else none), (2, if q.2.1 = 2 then some (.arr 3 1 (intRows q.2.2.1)) else none)])
    (fun q => q.1 ≤ M.length ∧ runSt k M cnt q.1 = some q.2.2 ∧ (q.2.1 = 0 → q.1 = 0 ∧ q.2.2.1 = amtK k) ∧ (q.1 = 0 → q.2.1 = 0) ∧ q.2.1 < 3) (fun q => M.length - q.1) (0, 0, amtK k, 0) ?_ ⟨Nat.zero_le _, rfl, fun _ => ⟨rfl, rfl⟩, fun _ => rfl, Nat.zero_lt_succ _⟩ ?_
  · simp (maxSteps := 4000000) only [go_sem, nmL, lardRow]
    refine z26 [] ?_ ?_ rfl rfl <;> simp [lessT, lessM, lessB, AV.less]
    all_goals first | done | rfl | exact ⟨rfl, rfl⟩ | trace_state
  · rintro ⟨d, p, l, w⟩ ⟨hd, hrun, hp0, hd0, hp3⟩
    dsimp only at hd hrun hp0 hd0 hp3
    obtain ⟨hla, hll, hw0, hw1⟩ := z247 hg hM hc d (l, w) hd hrun
    dsimp only at hla hll hw0 hw1
    have hw2 : w ≤ 2 ^ 40 := by omega
    have hsome : (runSt k M cnt d).isSome = true := by rw [hrun]; rfl
    have hlast : d = M.length → lastD k M cnt M.length = d ∧ endSt k M cnt = (l, w) := fun he => by
      have e : lastD k M cnt M.length = d := by rw [← he]; exact lastD_all hsome
      refine ⟨e, ?_⟩
      rw [endSt, e, hrun, if_neg (by omega)]
      rfl
    have hstop : d < M.length → runSt k M cnt (d + 1) = none → lastD k M cnt M.length = d ∧ endSt k M cnt = clrD k d (l, w) := fun hlt hn => by
      have e : lastD k M cnt M.length = d := lastD_stop hsome hn (by omega)
      refine ⟨e, ?_⟩
      rw [endSt, e, hrun, if_pos hlt]
      rfl
    have hstep : d < M.length → runSt k M cnt (d + 1) = (takeTo k (ordK k) (needD k M cnt d) (clrD k d (l, w)).1 k.allerg.length).map fun c => (c, (clrD k d (l, w)).2) := fun _ => by rw [runSt, hrun]
    rcases (by omega : p = 0 ∨ p = 1 ∨ p = 2) with hp | hp | hp
    · -- phase 0
      subst hp
      obtain ⟨hz0, hl1⟩ := hp0 rfl
      have hLA := leftAt_own hz0
      simp (maxSteps := 4000000) only [go_sem, nmL, lardRow]
      repeat (first | refine z21 ?_ | refine z16 ?_ | refine z14 ?_ | (refine z12 fun K hK => ?_; simp (maxSteps := 4000000) only [go_sem]; refine hK _ ?_; clear hK K) | refine z20 ?_ | refine z22 ?_ | refine z17 ?_ | refine z15 ?_ | refine z13 rfl ?_ | refine z19 ?_ | refine z10 ?_ | refine z23 ?_ | refine z18 ?_ | refine z11 ?_)
      refine z27 rfl (fun hb => ?_) (fun hb => ?_)
      · have hlt : d < M.length := by simpa using hb
        have hw : IntKind.i64.wrap ((d : Int) + 1) = ((d + 1 : Nat) : Int) := by rw [z30 (by omega)]; simp
        obtain ⟨r, hr⟩ : ∃ r, M[d]? = some r := ⟨_, List.getElem?_eq_getElem hlt⟩
        obtain ⟨hdd, hrl, hday⟩ := z202 hg hM hc hr
        have g1 := z48 hr
        have hni : ¬ ((d : Int) < 0) := by omega
        have hnd : needD k M cnt d = needL k r (cnt d) := by rw [needD, List.getD, hr]; rfl
        have hst := hstep hlt
        have hsp := hstop hlt
        rw [hnd] at hst
        have h86 := zf42 k hbl (d : Int) l (ordK k) w hll hla ⟨hw0, hw2⟩
        obtain ⟨c1, c2, c3⟩ := z63 (k := k) (day := (d : Int)) (w := w) hla k.batches.length
        have c4 := z54 k (d : Int) l w k.batches.length
        change runSt k M cnt (d + 1) = (takeTo k (ordK k) (needL k r (cnt d)) (clrTo k (d : Int) l w k.batches.length).1 k.allerg.length).map fun c => (c, (clrTo k (d : Int) l w k.batches.length).2) at hst
        change runSt k M cnt (d + 1) = none → lastD k M cnt M.length = d ∧ endSt k M cnt = clrTo k (d : Int) l w k.batches.length at hsp
        obtain ⟨⟨C, v⟩, hC⟩ : ∃ a, a = clrTo k (d : Int) l w k.batches.length := ⟨_, rfl⟩
        rw [← hC] at h86 c1 c2 c3 c4 hst hsp
        dsimp only at c1 c2 c3 c4 hst
        have hAC : C = A0 := by
          have h0 : (l, w) = (amtK k, 0) := by rw [hz0] at hrun; exact (Option.some.inj hrun).symm
          rw [hA0, left0, clrD, ← h0]
          rw [hz0] at hC
          exact congrArg Prod.fst hC
        subst hAC
        have h87 := (zf44 k hg r (cnt d) 84 [.ptr [.fn 56 [.ptr [.sl (listRows N)] 0]] 0, .ptr [.i (d : Int)] 0] hday (fun j hj => hf84 d j hdd (by omega))).deep
        have h141 := zf43 k (needL k r (cnt d)) C (ordK k) v (by omega) hbl c1 (z75 hg hday) (by rw [z65]; exact hgo.2) (fun x hx => z129 hx) (by rw [z161]; exact hbl)
        rw [z65] at h141
        simp only [lardRow] at h86
        rw [Kitchen.cells] at h87
        obtain ⟨NE, hNE⟩ : ∃ NE, NE = needL k r (cnt d) := ⟨_, rfl⟩
        rw [← hNE] at h87 h141 hst
        repeat (first | refine z21 ?_ | refine z16 ?_ | refine z14 ?_ | refine z20 ?_ | refine z10 ?_ | refine z11 ?_)
        refine z12 fun K hK => ?_
        simp (maxSteps := 4000000) only [go_sem, g1, hni]
        refine hK _ ?_
        clear hK K
        refine z38 [7] ?_
        simp (maxSteps := 4000000) only [go_sem]
        repeat (first | refine z21 ?_ | refine z16 ?_ | refine z14 ?_ | refine z20 ?_ | refine z10 ?_ | refine z11 ?_)
        refine z12 fun K hK => ?_
        simp (maxSteps := 4000000) only [go_sem]
        refine ⟨_, .own (ns := [33, 34, 35]) (news := []) (bads := [34, 35]) (rd := []) (hf := h86) (hnd := by decide) (hl0 := rfl) (hl1 := rfl) (hm := by repeat (first | exact trivial | refine And.intro ?_ ?_ | rfl)) (hnew := rfl) (hla := rfl) (ha := z42 (by repeat (first | exact trivial | refine And.intro ?_ ?_ | exact z45 rfl | exact z39 rfl rfl))) (hrd := rfl) (hsh := z40 _) (hb := rfl) (hfl := .inl rfl), ?_⟩
        simp (maxSteps := 4000000) only [go_sem, List.map_cons, List.map_nil]
        refine hK _ ?_
        clear hK K
        cases htk : takeTo k (ordK k) NE C k.allerg.length with
        | none =>
          rw [htk] at h141 hst
          obtain ⟨hD, hE⟩ := hsp hst
          simp only [takeBlks, lardRow, Option.isSome_none] at h141
          repeat (first | refine z21 ?_ | refine z16 ?_ | refine z14 ?_ | refine z20 ?_ | refine z10 ?_ | refine z11 ?_)
          refine z12 fun K hK => ?_
          simp (maxSteps := 4000000) only [go_sem]
          refine ⟨_, .given (hf := h87) (hd := rfl) (ha := rfl), ?_⟩
          simp (maxSteps := 4000000) only [go_sem]
          refine ⟨_, .own (ns := [33, 34, 35]) (news := []) (bads := [34, 35]) (rd := []) (hf := h141) (hnd := by decide) (hl0 := rfl) (hl1 := rfl) (hm := by repeat (first | exact trivial | refine And.intro ?_ ?_ | rfl)) (hnew := rfl) (hla := rfl) (ha := z42 (by repeat (first | exact trivial | refine And.intro ?_ ?_ | exact z45 rfl | exact z39 rfl rfl))) (hrd := rfl) (hsh := z40 _) (hb := rfl) (hfl := .inl rfl), ?_⟩
          simp (maxSteps := 4000000) only [go_sem, List.map_cons, List.map_nil]
          refine hK _ ?_
          clear hK K
          repeat (first | refine z21 ?_ | refine z16 ?_ | refine z14 ?_ | (refine z12 fun K hK => ?_; simp (maxSteps := 4000000) only [go_sem]; refine hK _ ?_; clear hK K) | refine z20 ?_ | refine z22 ?_ | refine z17 ?_ | refine z15 ?_ | refine z13 rfl ?_ | refine z19 ?_ | refine z10 ?_ | refine z23 ?_ | refine z18 ?_ | refine z11 ?_)
          repeat (first | refine z25 rfl ?_ | refine z24 rfl ?_ | refine z21 ?_ | refine z16 ?_ | refine z14 ?_ | (refine z12 fun K hK => ?_; simp (maxSteps := 4000000) only [go_sem]; refine hK _ ?_; clear hK K) | refine z20 ?_ | refine z22 ?_ | refine z17 ?_ | refine z15 ?_ | refine z13 rfl ?_ | refine z19 ?_ | refine z10 ?_ | refine z23 ?_ | refine z18 ?_ | refine z11 ?_)
          simp (maxSteps := 4000000) only [go_sem, retG, runBlks, lardRow, hD, hE, hLA, ← hA0]
        | some c =>
          rw [htk] at h141 hst
          simp only [takeBlks, lardRow, Option.isSome_some] at h141
          repeat (first | refine z21 ?_ | refine z16 ?_ | refine z14 ?_ | refine z20 ?_ | refine z10 ?_ | refine z11 ?_)
          refine z12 fun K hK => ?_
          simp (maxSteps := 4000000) only [go_sem]
          refine ⟨_, .given (hf := h87) (hd := rfl) (ha := rfl), ?_⟩
          simp (maxSteps := 4000000) only [go_sem]
          refine ⟨_, .own (ns := [33, 34, 35]) (news := [2]) (bads := [34, 35]) (rd := []) (hf := h141) (hnd := by decide) (hl0 := rfl) (hl1 := rfl) (hm := by repeat (first | exact trivial | refine And.intro ?_ ?_ | rfl)) (hnew := rfl) (hla := rfl) (ha := z42 (by repeat (first | exact trivial | refine And.intro ?_ ?_ | exact z45 rfl | exact z39 rfl rfl))) (hrd := rfl) (hsh := z40 _) (hb := rfl) (hfl := .inl rfl), ?_⟩
          simp (maxSteps := 4000000) only [go_sem, List.map_cons, List.map_nil]
          refine hK _ ?_
          clear hK K
          repeat (first | refine z25 rfl ?_ | refine z24 rfl ?_ | refine z21 ?_ | refine z16 ?_ | refine z14 ?_ | (refine z12 fun K hK => ?_; simp (maxSteps := 4000000) only [go_sem, hw]; refine hK _ ?_; clear hK K) | refine z20 ?_ | refine z22 ?_ | refine z17 ?_ | refine z15 ?_ | refine z13 rfl ?_ | refine z19 ?_ | refine z10 ?_ | refine z23 ?_ | refine z18 ?_ | refine z11 ?_)
          refine ⟨rfl, (d + 1, 2, c, v), ?_, ⟨hlt, hst, fun h => absurd (show 2 = 0 from h) (by decide), fun h => absurd (show d + 1 = 0 from h) (by omega), (by decide : 2 < 3)⟩, by dsimp only; omega⟩
          simp (maxSteps := 4000000) only [go_sem, nmL, lardRow]
          refine z26 [] ?_ ?_ rfl rfl <;> simp [lessT, lessM, lessB, AV.less]
          all_goals first | done | rfl | exact ⟨rfl, rfl⟩ | trace_state
      · have he : d = M.length := by (have : ¬ d < M.length := by simpa using hb); omega
        subst he
        exfalso
        omega
    · -- phase 1
      subst hp
      have hpos : d ≠ 0 := fun h => by have := hd0 h; omega
      have hLA := z177 hpos
      simp (maxSteps := 4000000) only [go_sem, nmL, lardRow]
      repeat (first | refine z21 ?_ | refine z16 ?_ | refine z14 ?_ | (refine z12 fun K hK => ?_; simp (maxSteps := 4000000) only [go_sem]; refine hK _ ?_; clear hK K) | refine z20 ?_ | refine z22 ?_ | refine z17 ?_ | refine z15 ?_ | refine z13 rfl ?_ | refine z19 ?_ | refine z10 ?_ | refine z23 ?_ | refine z18 ?_ | refine z11 ?_)
      refine z27 rfl (fun hb => ?_) (fun hb => ?_)
      · have hlt : d < M.length := by simpa using hb
        have hw : IntKind.i64.wrap ((d : Int) + 1) = ((d + 1 : Nat) : Int) := by rw [z30 (by omega)]; simp
        obtain ⟨r, hr⟩ : ∃ r, M[d]? = some r := ⟨_, List.getElem?_eq_getElem hlt⟩
        obtain ⟨hdd, hrl, hday⟩ := z202 hg hM hc hr
        have g1 := z48 hr
        have hni : ¬ ((d : Int) < 0) := by omega
        have hnd : needD k M cnt d = needL k r (cnt d) := by rw [needD, List.getD, hr]; rfl
        have hst := hstep hlt
        have hsp := hstop hlt
        rw [hnd] at hst
        have h86 := zf42 k hbl (d : Int) l (ordK k) w hll hla ⟨hw0, hw2⟩
        obtain ⟨c1, c2, c3⟩ := z63 (k := k) (day := (d : Int)) (w := w) hla k.batches.length
        have c4 := z54 k (d : Int) l w k.batches.length
        change runSt k M cnt (d + 1) = (takeTo k (ordK k) (needL k r (cnt d)) (clrTo k (d : Int) l w k.batches.length).1 k.allerg.length).map fun c => (c, (clrTo k (d : Int) l w k.batches.length).2) at hst
        change runSt k M cnt (d + 1) = none → lastD k M cnt M.length = d ∧ endSt k M cnt = clrTo k (d : Int) l w k.batches.length at hsp
        obtain ⟨⟨C, v⟩, hC⟩ : ∃ a, a = clrTo k (d : Int) l w k.batches.length := ⟨_, rfl⟩
        rw [← hC] at h86 c1 c2 c3 c4 hst hsp
        dsimp only at c1 c2 c3 c4 hst
        have h87 := (zf44 k hg r (cnt d) 84 [.ptr [.fn 56 [.ptr [.sl (listRows N)] 0]] 0, .ptr [.i (d : Int)] 0] hday (fun j hj => hf84 d j hdd (by omega))).deep
        have h141 := zf43 k (needL k r (cnt d)) C (ordK k) v (by omega) hbl c1 (z75 hg hday) (by rw [z65]; exact hgo.2) (fun x hx => z129 hx) (by rw [z161]; exact hbl)
        rw [z65] at h141
        simp only [lardRow] at h86
        rw [Kitchen.cells] at h87
        obtain ⟨NE, hNE⟩ : ∃ NE, NE = needL k r (cnt d) := ⟨_, rfl⟩
        rw [← hNE] at h87 h141 hst
        repeat (first | refine z21 ?_ | refine z16 ?_ | refine z14 ?_ | refine z20 ?_ | refine z10 ?_ | refine z11 ?_)
        refine z12 fun K hK => ?_
        simp (maxSteps := 4000000) only [go_sem, g1, hni]
        refine hK _ ?_
        clear hK K
        refine z38 [7] ?_
        simp (maxSteps := 4000000) only [go_sem]
        repeat (first | refine z21 ?_ | refine z16 ?_ | refine z14 ?_ | refine z20 ?_ | refine z10 ?_ | refine z11 ?_)
        refine z12 fun K hK => ?_
        simp (maxSteps := 4000000) only [go_sem]
        refine ⟨_, .own (ns := [33, 1, 35]) (news := []) (bads := [1, 35]) (rd := []) (hf := h86) (hnd := by decide) (hl0 := rfl) (hl1 := rfl) (hm := by repeat (first | exact trivial | refine And.intro ?_ ?_ | rfl)) (hnew := rfl) (hla := rfl) (ha := z42 (by repeat (first | exact trivial | refine And.intro ?_ ?_ | exact z45 rfl | exact z39 rfl rfl))) (hrd := rfl) (hsh := z40 _) (hb := rfl) (hfl := .inl rfl), ?_⟩
        simp (maxSteps := 4000000) only [go_sem, List.map_cons, List.map_nil]
        refine hK _ ?_
        clear hK K
        cases htk : takeTo k (ordK k) NE C k.allerg.length with
        | none =>
          rw [htk] at h141 hst
          obtain ⟨hD, hE⟩ := hsp hst
          simp only [takeBlks, lardRow, Option.isSome_none] at h141
          repeat (first | refine z21 ?_ | refine z16 ?_ | refine z14 ?_ | refine z20 ?_ | refine z10 ?_ | refine z11 ?_)
          refine z12 fun K hK => ?_
          simp (maxSteps := 4000000) only [go_sem]
          refine ⟨_, .given (hf := h87) (hd := rfl) (ha := rfl), ?_⟩
          simp (maxSteps := 4000000) only [go_sem]
          refine ⟨_, .own (ns := [33, 1, 35]) (news := []) (bads := [1, 35]) (rd := []) (hf := h141) (hnd := by decide) (hl0 := rfl) (hl1 := rfl) (hm := by repeat (first | exact trivial | refine And.intro ?_ ?_ | rfl)) (hnew := rfl) (hla := rfl) (ha := z42 (by repeat (first | exact trivial | refine And.intro ?_ ?_ | exact z45 rfl | exact z39 rfl rfl))) (hrd := rfl) (hsh := z40 _) (hb := rfl) (hfl := .inl rfl), ?_⟩
          simp (maxSteps := 4000000) only [go_sem, List.map_cons, List.map_nil]
          refine hK _ ?_
          clear hK K
          repeat (first | refine z21 ?_ | refine z16 ?_ | refine z14 ?_ | (refine z12 fun K hK => ?_; simp (maxSteps := 4000000) only [go_sem]; refine hK _ ?_; clear hK K) | refine z20 ?_ | refine z22 ?_ | refine z17 ?_ | refine z15 ?_ | refine z13 rfl ?_ | refine z19 ?_ | refine z10 ?_ | refine z23 ?_ | refine z18 ?_ | refine z11 ?_)
          refine z38 [1] ?_
          simp (maxSteps := 4000000) only [go_sem]
          repeat (first | refine z25 rfl ?_ | refine z24 rfl ?_ | refine z21 ?_ | refine z16 ?_ | refine z14 ?_ | (refine z12 fun K hK => ?_; simp (maxSteps := 4000000) only [go_sem]; refine hK _ ?_; clear hK K) | refine z20 ?_ | refine z22 ?_ | refine z17 ?_ | refine z15 ?_ | refine z13 rfl ?_ | refine z19 ?_ | refine z10 ?_ | refine z23 ?_ | refine z18 ?_ | refine z11 ?_)
          simp (maxSteps := 4000000) only [go_sem, retG, runBlks, lardRow, hD, hE, hLA, ← hA0]
        | some c =>
          rw [htk] at h141 hst
          simp only [takeBlks, lardRow, Option.isSome_some] at h141
          repeat (first | refine z21 ?_ | refine z16 ?_ | refine z14 ?_ | refine z20 ?_ | refine z10 ?_ | refine z11 ?_)
          refine z12 fun K hK => ?_
          simp (maxSteps := 4000000) only [go_sem]
          refine ⟨_, .given (hf := h87) (hd := rfl) (ha := rfl), ?_⟩
          simp (maxSteps := 4000000) only [go_sem]
          refine ⟨_, .own (ns := [33, 1, 35]) (news := [2]) (bads := [1, 35]) (rd := []) (hf := h141) (hnd := by decide) (hl0 := rfl) (hl1 := rfl) (hm := by repeat (first | exact trivial | refine And.intro ?_ ?_ | rfl)) (hnew := rfl) (hla := rfl) (ha := z42 (by repeat (first | exact trivial | refine And.intro ?_ ?_ | exact z45 rfl | exact z39 rfl rfl))) (hrd := rfl) (hsh := z40 _) (hb := rfl) (hfl := .inl rfl), ?_⟩
          simp (maxSteps := 4000000) only [go_sem, List.map_cons, List.map_nil]
          refine hK _ ?_
          clear hK K
          repeat (first | refine z25 rfl ?_ | refine z24 rfl ?_ | refine z21 ?_ | refine z16 ?_ | refine z14 ?_ | (refine z12 fun K hK => ?_; simp (maxSteps := 4000000) only [go_sem, hw]; refine hK _ ?_; clear hK K) | refine z20 ?_ | refine z22 ?_ | refine z17 ?_ | refine z15 ?_ | refine z13 rfl ?_ | refine z19 ?_ | refine z10 ?_ | refine z23 ?_ | refine z18 ?_ | refine z11 ?_)
          refine ⟨rfl, (d + 1, 2, c, v), ?_, ⟨hlt, hst, fun h => absurd (show 2 = 0 from h) (by decide), fun h => absurd (show d + 1 = 0 from h) (by omega), (by decide : 2 < 3)⟩, by dsimp only; omega⟩
          simp (maxSteps := 4000000) only [go_sem, nmL, lardRow]
          refine z26 [] ?_ ?_ rfl rfl <;> simp [lessT, lessM, lessB, AV.less]
          all_goals first | done | rfl | exact ⟨rfl, rfl⟩ | trace_state
      · have he : d = M.length := by (have : ¬ d < M.length := by simpa using hb); omega
        subst he
        obtain ⟨hD, hE⟩ := hlast rfl
        refine z38 [1] ?_
        simp (maxSteps := 4000000) only [go_sem]
        repeat (first | refine z21 ?_ | refine z16 ?_ | refine z14 ?_ | (refine z12 fun K hK => ?_; simp (maxSteps := 4000000) only [go_sem]; refine hK _ ?_; clear hK K) | refine z20 ?_ | refine z22 ?_ | refine z17 ?_ | refine z15 ?_ | refine z13 rfl ?_ | refine z19 ?_ | refine z10 ?_ | refine z23 ?_ | refine z18 ?_ | refine z11 ?_)
        simp (maxSteps := 4000000) only [go_sem, retG, runBlks, lardRow, hD, hE, hLA, ← hA0]
    · -- phase 2
      subst hp
      have hpos : d ≠ 0 := fun h => by have := hd0 h; omega
      have hLA := z177 hpos
      simp (maxSteps := 4000000) only [go_sem, nmL, lardRow]
      repeat (first | refine z21 ?_ | refine z16 ?_ | refine z14 ?_ | (refine z12 fun K hK => ?_; simp (maxSteps := 4000000) only [go_sem]; refine hK _ ?_; clear hK K) | refine z20 ?_ | refine z22 ?_ | refine z17 ?_ | refine z15 ?_ | refine z13 rfl ?_ | refine z19 ?_ | refine z10 ?_ | refine z23 ?_ | refine z18 ?_ | refine z11 ?_)
      refine z27 rfl (fun hb => ?_) (fun hb => ?_)
      · have hlt : d < M.length := by simpa using hb
        have hw : IntKind.i64.wrap ((d : Int) + 1) = ((d + 1 : Nat) : Int) := by rw [z30 (by omega)]; simp
        obtain ⟨r, hr⟩ : ∃ r, M[d]? = some r := ⟨_, List.getElem?_eq_getElem hlt⟩
        obtain ⟨hdd, hrl, hday⟩ := z202 hg hM hc hr
        have g1 := z48 hr
        have hni : ¬ ((d : Int) < 0) := by omega
        have hnd : needD k M cnt d = needL k r (cnt d) := by rw [needD, List.getD, hr]; rfl
        have hst := hstep hlt
        have hsp := hstop hlt
        rw [hnd] at hst
        have h86 := zf42 k hbl (d : Int) l (ordK k) w hll hla ⟨hw0, hw2⟩
        obtain ⟨c1, c2, c3⟩ := z63 (k := k) (day := (d : Int)) (w := w) hla k.batches.length
        have c4 := z54 k (d : Int) l w k.batches.length
        change runSt k M cnt (d + 1) = (takeTo k (ordK k) (needL k r (cnt d)) (clrTo k (d : Int) l w k.batches.length).1 k.allerg.length).map fun c => (c, (clrTo k (d : Int) l w k.batches.length).2) at hst
        change runSt k M cnt (d + 1) = none → lastD k M cnt M.length = d ∧ endSt k M cnt = clrTo k (d : Int) l w k.batches.length at hsp
        obtain ⟨⟨C, v⟩, hC⟩ : ∃ a, a = clrTo k (d : Int) l w k.batches.length := ⟨_, rfl⟩
        rw [← hC] at h86 c1 c2 c3 c4 hst hsp
        dsimp only at c1 c2 c3 c4 hst
        have h87 := (zf44 k hg r (cnt d) 84 [.ptr [.fn 56 [.ptr [.sl (listRows N)] 0]] 0, .ptr [.i (d : Int)] 0] hday (fun j hj => hf84 d j hdd (by omega))).deep
        have h141 := zf43 k (needL k r (cnt d)) C (ordK k) v (by omega) hbl c1 (z75 hg hday) (by rw [z65]; exact hgo.2) (fun x hx => z129 hx) (by rw [z161]; exact hbl)
        rw [z65] at h141
        simp only [lardRow] at h86
        rw [Kitchen.cells] at h87
        obtain ⟨NE, hNE⟩ : ∃ NE, NE = needL k r (cnt d) := ⟨_, rfl⟩
        rw [← hNE] at h87 h141 hst
        repeat (first | refine z21 ?_ | refine z16 ?_ | refine z14 ?_ | refine z20 ?_ | refine z10 ?_ | refine z11 ?_)
        refine z12 fun K hK => ?_
        simp (maxSteps := 4000000) only [go_sem, g1, hni]
        refine hK _ ?_
        clear hK K
        refine z38 [7] ?_
        simp (maxSteps := 4000000) only [go_sem]
        repeat (first | refine z21 ?_ | refine z16 ?_ | refine z14 ?_ | refine z20 ?_ | refine z10 ?_ | refine z11 ?_)
        refine z12 fun K hK => ?_
        simp (maxSteps := 4000000) only [go_sem]
        refine ⟨_, .own (ns := [33, 2, 35]) (news := []) (bads := [2, 35]) (rd := []) (hf := h86) (hnd := by decide) (hl0 := rfl) (hl1 := rfl) (hm := by repeat (first | exact trivial | refine And.intro ?_ ?_ | rfl)) (hnew := rfl) (hla := rfl) (ha := z42 (by repeat (first | exact trivial | refine And.intro ?_ ?_ | exact z45 rfl | exact z39 rfl rfl))) (hrd := rfl) (hsh := z40 _) (hb := rfl) (hfl := .inl rfl), ?_⟩
        simp (maxSteps := 4000000) only [go_sem, List.map_cons, List.map_nil]
        refine hK _ ?_
        clear hK K
        cases htk : takeTo k (ordK k) NE C k.allerg.length with
        | none =>
          rw [htk] at h141 hst
          obtain ⟨hD, hE⟩ := hsp hst
          simp only [takeBlks, lardRow, Option.isSome_none] at h141
          repeat (first | refine z21 ?_ | refine z16 ?_ | refine z14 ?_ | refine z20 ?_ | refine z10 ?_ | refine z11 ?_)
          refine z12 fun K hK => ?_
          simp (maxSteps := 4000000) only [go_sem]
          refine ⟨_, .given (hf := h87) (hd := rfl) (ha := rfl), ?_⟩
          simp (maxSteps := 4000000) only [go_sem]
          refine ⟨_, .own (ns := [33, 2, 35]) (news := []) (bads := [2, 35]) (rd := []) (hf := h141) (hnd := by decide) (hl0 := rfl) (hl1 := rfl) (hm := by repeat (first | exact trivial | refine And.intro ?_ ?_ | rfl)) (hnew := rfl) (hla := rfl) (ha := z42 (by repeat (first | exact trivial | refine And.intro ?_ ?_ | exact z45 rfl | exact z39 rfl rfl))) (hrd := rfl) (hsh := z40 _) (hb := rfl) (hfl := .inl rfl), ?_⟩
          simp (maxSteps := 4000000) only [go_sem, List.map_cons, List.map_nil]
          refine hK _ ?_
          clear hK K
          repeat (first | refine z21 ?_ | refine z16 ?_ | refine z14 ?_ | (refine z12 fun K hK => ?_; simp (maxSteps := 4000000) only [go_sem]; refine hK _ ?_; clear hK K) | refine z20 ?_ | refine z22 ?_ | refine z17 ?_ | refine z15 ?_ | refine z13 rfl ?_ | refine z19 ?_ | refine z10 ?_ | refine z23 ?_ | refine z18 ?_ | refine z11 ?_)
          refine z38 [2] ?_
          simp (maxSteps := 4000000) only [go_sem]
          repeat (first | refine z25 rfl ?_ | refine z24 rfl ?_ | refine z21 ?_ | refine z16 ?_ | refine z14 ?_ | (refine z12 fun K hK => ?_; simp (maxSteps := 4000000) only [go_sem]; refine hK _ ?_; clear hK K) | refine z20 ?_ | refine z22 ?_ | refine z17 ?_ | refine z15 ?_ | refine z13 rfl ?_ | refine z19 ?_ | refine z10 ?_ | refine z23 ?_ | refine z18 ?_ | refine z11 ?_)
          simp (maxSteps := 4000000) only [go_sem, retG, runBlks, lardRow, hD, hE, hLA, ← hA0]
        | some c =>
          rw [htk] at h141 hst
          simp only [takeBlks, lardRow, Option.isSome_some] at h141
          repeat (first | refine z21 ?_ | refine z16 ?_ | refine z14 ?_ | refine z20 ?_ | refine z10 ?_ | refine z11 ?_)
          refine z12 fun K hK => ?_
          simp (maxSteps := 4000000) only [go_sem]
          refine ⟨_, .given (hf := h87) (hd := rfl) (ha := rfl), ?_⟩
          simp (maxSteps := 4000000) only [go_sem]
          refine ⟨_, .own (ns := [33, 2, 35]) (news := [1]) (bads := [2, 35]) (rd := []) (hf := h141) (hnd := by decide) (hl0 := rfl) (hl1 := rfl) (hm := by repeat (first | exact trivial | refine And.intro ?_ ?_ | rfl)) (hnew := rfl) (hla := rfl) (ha := z42 (by repeat (first | exact trivial | refine And.intro ?_ ?_ | exact z45 rfl | exact z39 rfl rfl))) (hrd := rfl) (hsh := z40 _) (hb := rfl) (hfl := .inl rfl), ?_⟩
          simp (maxSteps := 4000000) only [go_sem, List.map_cons, List.map_nil]
          refine hK _ ?_
          clear hK K
          repeat (first | refine z25 rfl ?_ | refine z24 rfl ?_ | refine z21 ?_ | refine z16 ?_ | refine z14 ?_ | (refine z12 fun K hK => ?_; simp (maxSteps := 4000000) only [go_sem, hw]; refine hK _ ?_; clear hK K) | refine z20 ?_ | refine z22 ?_ | refine z17 ?_ | refine z15 ?_ | refine z13 rfl ?_ | refine z19 ?_ | refine z10 ?_ | refine z23 ?_ | refine z18 ?_ | refine z11 ?_)
          refine ⟨rfl, (d + 1, 1, c, v), ?_, ⟨hlt, hst, fun h => absurd (show 1 = 0 from h) (by decide), fun h => absurd (show d + 1 = 0 from h) (by omega), (by decide : 1 < 3)⟩, by dsimp only; omega⟩
          simp (maxSteps := 4000000) only [go_sem, nmL, lardRow]
          refine z26 [] ?_ ?_ rfl rfl <;> simp [lessT, lessM, lessB, AV.less]
          all_goals first | done | rfl | exact ⟨rfl, rfl⟩ | trace_state
      · have he : d = M.length := by (have : ¬ d < M.length := by simpa using hb); omega
        subst he
        obtain ⟨hD, hE⟩ := hlast rfl
        refine z38 [2] ?_
        simp (maxSteps := 4000000) only [go_sem]
        repeat (first | refine z21 ?_ | refine z16 ?_ | refine z14 ?_ | (refine z12 fun K hK => ?_; simp (maxSteps := 4000000) only [go_sem]; refine hK _ ?_; clear hK K) | refine z20 ?_ | refine z22 ?_ | refine z17 ?_ | refine z15 ?_ | refine z13 rfl ?_ | refine z19 ?_ | refine z10 ?_ | refine z23 ?_ | refine z18 ?_ | refine z11 ?_)
        simp (maxSteps := 4000000) only [go_sem, retG, runBlks, lardRow, hD, hE, hLA, ← hA0]
end Go.Ab
namespace Go.Ab
open Go.RowKit Go.Proofs
set_option maxHeartbeats 16000000
set_option maxRecDepth 20000
attribute [local irreducible] WalkL Walk
def cookE (k : Kitchen) (M C : List (List Int)) : Int := if openK k M = 0 then (if shapedB countB C k.days then 0 else 72) else openK k M
def cookP (k : Kitchen) (M C : List (List Int)) : List Int × Int × Nat × Int :=
  if cookE k M C = 0 then ((endSt k M (cntOf C)).1, (endSt k M (cntOf C)).2, lastD k M (cntOf C) M.length, 0) else ([], 0, 0, cookE k M C)
theorem open_good {k : Kitchen} {M : List (List Int)} (h0 : openK k M = 0) : KitGood k ∧ shapedB (menuB k) M k.days = true := by
  unfold openK at h0
  split at h0
  · rename_i hz
    split at h0
    · exact ⟨z193 (z194.1 hz), by assumption⟩
    · cases h0
  · contradiction
theorem zf25 (k : Kitchen) (M C : List (List Int)) (hs : KitSmall k) (hM : M.length < 2 ^ 30) (hMr : ∀ r ∈ M, r.length < 2 ^ 30) (hC : C.length < 2 ^ 30) (hCr : ∀ r ∈ C, r.length < 2 ^ 30) :
    Fn Try.prog 25 [.agg k.cells, .sl (listRows M), .sl (listRows C)] (.tup [.sl (intRows (cookP k M C).1), .i (cookP k M C).2.1, .i ((cookP k M C).2.2.1 : Nat), .i (cookP k M C).2.2.2]) := by
  have h48 := zf48 k M hs hM hMr
  unfold cookP cookE
  by_cases h0 : ¬ openK k M = 0
  · have hb : (openK k M == 0) = false := by simpa using h0
    have hb2 : (openK k M != 0) = true := by simpa using h0
    rw [if_neg h0, if_neg h0]
    rw [Kitchen.cells] at h48 ⊢
    dsimp only
    refine z31 44 Try.call25 Try.func25 rfl (by decide) fun J => ?_
    simp (maxSteps := 4000000) only [go_sem, St.start, Try.ntmps25, Try.results25]
    repeat (first | refine z25 rfl ?_ | refine z24 rfl ?_ | refine z21 ?_ | refine z16 ?_ | refine z14 ?_ | (refine z12 fun K hK => ?_; simp (maxSteps := 4000000) only [go_sem, hb, hb2]; (repeat (first | (refine ⟨_, .lent (hf := h48) (hd := rfl) (hr := rfl), ?_⟩; simp (maxSteps := 4000000) only [go_sem, hb, hb2]) | (refine ⟨_, .given (hf := h48) (hd := rfl) (ha := rfl), ?_⟩; simp (maxSteps := 4000000) only [go_sem, hb, hb2]))); refine hK _ ?_; clear hK K) | refine z20 ?_ | refine z22 ?_ | refine z17 ?_ | refine z15 ?_ | refine z13 rfl ?_ | refine z19 ?_ | refine z10 ?_ | refine z23 ?_ | refine z18 ?_ | refine z11 ?_)
    simp (maxSteps := 4000000) only [go_sem, intRows, List.map_nil]
  have h0 : openK k M = 0 := Decidable.not_not.1 h0
  obtain ⟨hg, hsh⟩ := open_good h0
  have h52 := zf52c k hg C hC hCr
  rw [if_pos h0]
  rw [h0] at h48
  cases hc : shapedB countB C k.days with
  | false =>
    rw [hc] at h52
    rw [if_neg (by decide : ¬ (if false = true then (0 : Int) else 72) = 0), if_neg (by decide : ¬ false = true)]
    rw [Kitchen.cells] at h48 h52 ⊢
    refine z31 44 Try.call25 Try.func25 rfl (by decide) fun J => ?_
    simp (maxSteps := 4000000) only [go_sem, St.start, Try.ntmps25, Try.results25]
    repeat (first | refine z25 rfl ?_ | refine z24 rfl ?_ | refine z21 ?_ | refine z16 ?_ | refine z14 ?_ | (refine z12 fun K hK => ?_; simp (maxSteps := 4000000) only [go_sem]; (repeat (first | (refine ⟨_, .lent (hf := h48) (hd := rfl) (hr := rfl), ?_⟩; simp (maxSteps := 4000000) only [go_sem]) | (refine ⟨_, .lent (hf := h52) (hd := rfl) (hr := rfl), ?_⟩; simp (maxSteps := 4000000) only [go_sem]) | (refine ⟨_, .given (hf := h48) (hd := rfl) (ha := rfl), ?_⟩; simp (maxSteps := 4000000) only [go_sem]) | (refine ⟨_, .given (hf := h52) (hd := rfl) (ha := rfl), ?_⟩; simp (maxSteps := 4000000) only [go_sem]))); refine hK _ ?_; clear hK K) | refine z20 ?_ | refine z22 ?_ | refine z17 ?_ | refine z15 ?_ | refine z13 rfl ?_ | refine z19 ?_ | refine z10 ?_ | refine z23 ?_ | refine z18 ?_ | refine z11 ?_)
    simp (maxSteps := 4000000) only [go_sem, intRows, List.map_nil]
  | true =>
    rw [hc] at h52
    rw [if_pos rfl, if_pos rfl]
    have h55 := zf55c k hg M hsh C hc
    have h41 : FnG Try.prog 41 [] [] (List.map AV.d [.agg k.cells]) _ _ := zf41 k hg.batches
    have hlen := hg.days
    have hMl := z52 hsh
    obtain ⟨D, hD⟩ : ∃ D, D = lastD k M (cntOf C) M.length := ⟨_, rfl⟩
    have he0 : D = 0 → (endSt k M (cntOf C)).1 = left0 k := fun h => by
      rw [endSt, ← hD, h, if_pos (by omega)]
      rfl
    rw [runBlks, ← hD] at h55
    rw [← hD]
    obtain ⟨⟨EL, EW⟩, hE⟩ : ∃ e, e = endSt k M (cntOf C) := ⟨_, rfl⟩
    rw [← hE] at h55 he0 ⊢
    dsimp only at h55 he0 ⊢
    simp only [lardRow] at h41 h55
    rw [Kitchen.cells] at h41 h48 h52 ⊢
    by_cases hz : D = 0
    · rw [leftAt_own hz] at h55
      rw [← he0 hz] at h55
      refine z31 44 Try.call25 Try.func25 rfl (by decide) fun J => ?_
      simp (maxSteps := 4000000) only [go_sem, St.start, Try.ntmps25, Try.results25]
      repeat (first | refine z21 ?_ | refine z16 ?_ | refine z14 ?_ | refine z20 ?_ | refine z10 ?_ | refine z11 ?_)
      refine z12 fun K hK => ?_
      simp (maxSteps := 4000000) only [go_sem]
      refine hK _ ?_
      clear hK K
      refine z38 [5] ?_
      simp (maxSteps := 4000000) only [go_sem]
      repeat (first | refine z25 rfl ?_ | refine z24 rfl ?_ | refine z21 ?_ | refine z16 ?_ | refine z14 ?_ | (refine z12 fun K hK => ?_; simp (maxSteps := 4000000) only [go_sem]; (repeat (first | (refine ⟨_, .lent (hf := h48) (hd := rfl) (hr := rfl), ?_⟩; simp (maxSteps := 4000000) only [go_sem]) | (refine ⟨_, .lent (hf := h52) (hd := rfl) (hr := rfl), ?_⟩; simp (maxSteps := 4000000) only [go_sem]) | (refine ⟨_, .given (hf := h48) (hd := rfl) (ha := rfl), ?_⟩; simp (maxSteps := 4000000) only [go_sem]) | (refine ⟨_, .given (hf := h52) (hd := rfl) (ha := rfl), ?_⟩; simp (maxSteps := 4000000) only [go_sem]))); refine hK _ ?_; clear hK K) | refine z20 ?_ | refine z22 ?_ | refine z17 ?_ | refine z15 ?_ | refine z13 rfl ?_ | refine z19 ?_ | refine z10 ?_ | refine z23 ?_ | refine z18 ?_ | refine z11 ?_)
      refine z12 fun K hK => ?_
      simp (maxSteps := 4000000) only [go_sem]
      refine ⟨_, .made (news := [30, 16, 17]) (hf := h41) (hd := rfl) (hn := by decide) (hl := rfl) (hnew := rfl) (hx := rfl), ?_⟩
      simp (maxSteps := 4000000) only [go_sem, List.map_cons, List.map_nil]
      refine hK _ ?_
      clear hK K
      repeat (first | refine z21 ?_ | refine z16 ?_ | refine z14 ?_ | refine z20 ?_ | refine z10 ?_ | refine z11 ?_)
      refine z12 fun K hK => ?_
      simp (maxSteps := 4000000) only [go_sem]
      refine ⟨_, .own (ns := [30, 16, 17]) (news := []) (bads := [16, 17]) (rd := []) (hf := h55) (hnd := by decide) (hl0 := rfl) (hl1 := rfl) (hm := by repeat (first | exact trivial | refine And.intro ?_ ?_ | rfl)) (hnew := rfl) (hla := rfl) (ha := z42 (by repeat (first | exact trivial | refine And.intro ?_ ?_ | exact z45 rfl | exact z39 rfl rfl))) (hrd := rfl) (hsh := z40 _) (hb := rfl) (hfl := .inl rfl), ?_⟩
      simp (maxSteps := 4000000) only [go_sem, List.map_cons, List.map_nil]
      refine hK _ ?_
      clear hK K
      repeat (first | refine z21 ?_ | refine z16 ?_ | refine z14 ?_ | refine z20 ?_ | refine z10 ?_ | refine z11 ?_)
      refine z28 (by kernel_rfl) (by kernel_rfl) fun K hK => ?_
      simp (maxSteps := 4000000) only [go_sem]
      refine ⟨by kernel_rfl, hK _ ?_⟩
      clear hK K
      repeat (first | refine z21 ?_ | refine z16 ?_ | refine z14 ?_ | (refine z12 fun K hK => ?_; simp (maxSteps := 4000000) only [go_sem]; refine hK _ ?_; clear hK K) | refine z20 ?_ | refine z22 ?_ | refine z17 ?_ | refine z15 ?_ | refine z13 rfl ?_ | refine z19 ?_ | refine z10 ?_ | refine z23 ?_ | refine z18 ?_ | refine z11 ?_)
      simp (maxSteps := 4000000) only [go_sem]
    · rw [z177 hz] at h55
      refine z31 44 Try.call25 Try.func25 rfl (by decide) fun J => ?_
      simp (maxSteps := 4000000) only [go_sem, St.start, Try.ntmps25, Try.results25]
      repeat (first | refine z21 ?_ | refine z16 ?_ | refine z14 ?_ | refine z20 ?_ | refine z10 ?_ | refine z11 ?_)
      refine z12 fun K hK => ?_
      simp (maxSteps := 4000000) only [go_sem]
      refine hK _ ?_
      clear hK K
      refine z38 [5] ?_
      simp (maxSteps := 4000000) only [go_sem]
      repeat (first | refine z25 rfl ?_ | refine z24 rfl ?_ | refine z21 ?_ | refine z16 ?_ | refine z14 ?_ | (refine z12 fun K hK => ?_; simp (maxSteps := 4000000) only [go_sem]; (repeat (first | (refine ⟨_, .lent (hf := h48) (hd := rfl) (hr := rfl), ?_⟩; simp (maxSteps := 4000000) only [go_sem]) | (refine ⟨_, .lent (hf := h52) (hd := rfl) (hr := rfl), ?_⟩; simp (maxSteps := 4000000) only [go_sem]) | (refine ⟨_, .given (hf := h48) (hd := rfl) (ha := rfl), ?_⟩; simp (maxSteps := 4000000) only [go_sem]) | (refine ⟨_, .given (hf := h52) (hd := rfl) (ha := rfl), ?_⟩; simp (maxSteps := 4000000) only [go_sem]))); refine hK _ ?_; clear hK K) | refine z20 ?_ | refine z22 ?_ | refine z17 ?_ | refine z15 ?_ | refine z13 rfl ?_ | refine z19 ?_ | refine z10 ?_ | refine z23 ?_ | refine z18 ?_ | refine z11 ?_)
      refine z12 fun K hK => ?_
      simp (maxSteps := 4000000) only [go_sem]
      refine ⟨_, .made (news := [30, 16, 17]) (hf := h41) (hd := rfl) (hn := by decide) (hl := rfl) (hnew := rfl) (hx := rfl), ?_⟩
      simp (maxSteps := 4000000) only [go_sem, List.map_cons, List.map_nil]
      refine hK _ ?_
      clear hK K
      repeat (first | refine z21 ?_ | refine z16 ?_ | refine z14 ?_ | refine z20 ?_ | refine z10 ?_ | refine z11 ?_)
      refine z12 fun K hK => ?_
      simp (maxSteps := 4000000) only [go_sem]
      refine ⟨_, .own (ns := [30, 16, 17]) (news := []) (bads := [16, 17]) (rd := []) (hf := h55) (hnd := by decide) (hl0 := rfl) (hl1 := rfl) (hm := by repeat (first | exact trivial | refine And.intro ?_ ?_ | rfl)) (hnew := rfl) (hla := rfl) (ha := z42 (by repeat (first | exact trivial | refine And.intro ?_ ?_ | exact z45 rfl | exact z39 rfl rfl))) (hrd := rfl) (hsh := z40 _) (hb := rfl) (hfl := .inl rfl), ?_⟩
      simp (maxSteps := 4000000) only [go_sem, List.map_cons, List.map_nil]
      refine hK _ ?_
      clear hK K
      repeat (first | refine z21 ?_ | refine z16 ?_ | refine z14 ?_ | refine z20 ?_ | refine z10 ?_ | refine z11 ?_)
      refine z28 (by kernel_rfl) (by kernel_rfl) fun K hK => ?_
      simp (maxSteps := 4000000) only [go_sem]
      refine ⟨by kernel_rfl, hK _ ?_⟩
      clear hK K
      repeat (first | refine z21 ?_ | refine z16 ?_ | refine z14 ?_ | (refine z12 fun K hK => ?_; simp (maxSteps := 4000000) only [go_sem]; refine hK _ ?_; clear hK K) | refine z20 ?_ | refine z22 ?_ | refine z17 ?_ | refine z15 ?_ | refine z13 rfl ?_ | refine z19 ?_ | refine z10 ?_ | refine z23 ?_ | refine z18 ?_ | refine z11 ?_)
      simp (maxSteps := 4000000) only [go_sem]
theorem zf21 (a b : List Int) (ha : a.length < 2 ^ 30) : Fn Try.prog 21 [.sl (intRows a), .sl (intRows b)] (.bool (decide (a = b))) := by
  refine z31 26 Try.call21 Try.func21 rfl (by decide) fun J => ?_
  simp (maxSteps := 4000000) only [go_sem, St.start, Try.ntmps21, Try.results21]
  repeat (first | refine z21 ?_ | refine z16 ?_ | refine z14 ?_ | (refine z12 fun K hK => ?_; simp (maxSteps := 4000000) only [go_sem, z32]; refine hK _ ?_; clear hK K) | refine z20 ?_ | refine z22 ?_ | refine z17 ?_ | refine z15 ?_ | refine z13 rfl ?_ | refine z19 ?_ | refine z10 ?_ | refine z23 ?_ | refine z18 ?_ | refine z11 ?_)
  by_cases hl : a.length = b.length
  · have hne : ((a.length : Int) != (b.length : Int)) = false := by simp [hl]
    simp (maxSteps := 4000000) only [go_sem, hne]
    refine z24 rfl ?_
    repeat (first | refine z21 ?_ | refine z16 ?_ | refine z14 ?_ | (refine z12 fun K hK => ?_; simp (maxSteps := 4000000) only [go_sem]; refine hK _ ?_; clear hK K) | refine z20 ?_ | refine z22 ?_ | refine z17 ?_ | refine z15 ?_ | refine z13 rfl ?_ | refine z19 ?_ | refine z10 ?_ | refine z23 ?_ | refine z18 ?_ | refine z11 ?_)
    refine z29 (fun (i : Nat) => [(5, .d (.i i))]) (fun _ => []) (fun i => i ≤ a.length ∧ a.take i = b.take i) (fun i => a.length - i) 0 ?_ ⟨Nat.zero_le _, by simp⟩ ?_
    · simp (maxSteps := 4000000) only [go_sem]
      refine z26 [] ?_ ?_ rfl rfl <;> simp [lessT, lessM, lessB, AV.less]
    · intro i ⟨hi, heq⟩
      simp (maxSteps := 4000000) only [go_sem]
      repeat (first | refine z21 ?_ | refine z16 ?_ | refine z14 ?_ | (refine z12 fun K hK => ?_; simp (maxSteps := 4000000) only [go_sem, z32]; refine hK _ ?_; clear hK K) | refine z20 ?_ | refine z22 ?_ | refine z17 ?_ | refine z15 ?_ | refine z13 rfl ?_ | refine z19 ?_ | refine z10 ?_ | refine z23 ?_ | refine z18 ?_ | refine z11 ?_)
      refine z27 rfl (fun hb => ?_) (fun hb => ?_)
      · have hlt : i < a.length := by simpa using hb
        have hw : IntKind.i64.wrap ((i : Int) + 1) = ((i + 1 : Nat) : Int) := by rw [z30 (by omega)]; simp
        obtain ⟨x, hx⟩ : ∃ x, a[i]? = some x := ⟨_, List.getElem?_eq_getElem hlt⟩
        obtain ⟨y, hy⟩ : ∃ y, b[i]? = some y := ⟨_, List.getElem?_eq_getElem (hl ▸ hlt)⟩
        have g1 := z46 hx
        have g2 := z46 hy
        repeat (first | refine z21 ?_ | refine z16 ?_ | refine z14 ?_ | (refine z12 fun K hK => ?_; simp (maxSteps := 4000000) only [go_sem]; refine hK _ ?_; clear hK K) | refine z20 ?_ | refine z22 ?_ | refine z17 ?_ | refine z15 ?_ | refine z13 rfl ?_ | refine z19 ?_ | refine z10 ?_ | refine z23 ?_ | refine z18 ?_ | refine z11 ?_)
        refine z28 (by kernel_rfl) (by kernel_rfl) fun K hK => ?_
        simp (maxSteps := 4000000) only [go_sem, g1, g2]
        refine ⟨by kernel_rfl, hK _ ?_⟩
        clear hK K
        refine z27 rfl (fun hc => ?_) (fun hc => ?_)
        · have hc : ¬ x = y := by simpa using hc
          have hab : ¬ a = b := by rintro rfl; rw [hx] at hy; cases hy; exact hc rfl
          repeat (first | refine z21 ?_ | refine z16 ?_ | refine z14 ?_ | (refine z12 fun K hK => ?_; simp (maxSteps := 4000000) only [go_sem]; refine hK _ ?_; clear hK K) | refine z20 ?_ | refine z22 ?_ | refine z17 ?_ | refine z15 ?_ | refine z13 rfl ?_ | refine z19 ?_ | refine z10 ?_ | refine z23 ?_ | refine z18 ?_ | refine z11 ?_)
          simp (maxSteps := 4000000) only [go_sem, hab]
        · have hc : x = y := by simpa using hc
          repeat (first | refine z21 ?_ | refine z16 ?_ | refine z14 ?_ | (refine z12 fun K hK => ?_; simp (maxSteps := 4000000) only [go_sem, hw]; refine hK _ ?_; clear hK K) | refine z20 ?_ | refine z22 ?_ | refine z17 ?_ | refine z15 ?_ | refine z13 rfl ?_ | refine z19 ?_ | refine z10 ?_ | refine z23 ?_ | refine z18 ?_ | refine z11 ?_)
          refine ⟨rfl, i + 1, ?_, ⟨hlt, by rw [List.take_add_one, List.take_add_one, heq, hx, hy, hc]⟩, by omega⟩
          refine z26 [] ?_ ?_ rfl rfl <;> simp [lessT, lessM, lessB, AV.less]
      · have he : i = a.length := by (have : ¬ i < a.length := by simpa using hb); omega
        subst he
        have hab : a = b := z272 hl heq
        repeat (first | refine z21 ?_ | refine z16 ?_ | refine z14 ?_ | (refine z12 fun K hK => ?_; simp (maxSteps := 4000000) only [go_sem]; refine hK _ ?_; clear hK K) | refine z20 ?_ | refine z22 ?_ | refine z17 ?_ | refine z15 ?_ | refine z13 rfl ?_ | refine z19 ?_ | refine z10 ?_ | refine z23 ?_ | refine z18 ?_ | refine z11 ?_)
        simp (maxSteps := 4000000) only [go_sem, hab]
  · have hne : ((a.length : Int) != (b.length : Int)) = true := by simp; omega
    have hab : ¬ a = b := by rintro rfl; exact hl rfl
    simp (maxSteps := 4000000) only [go_sem, hne]
    refine z25 rfl ?_
    repeat (first | refine z21 ?_ | refine z16 ?_ | refine z14 ?_ | (refine z12 fun K hK => ?_; simp (maxSteps := 4000000) only [go_sem]; refine hK _ ?_; clear hK K) | refine z20 ?_ | refine z22 ?_ | refine z17 ?_ | refine z15 ?_ | refine z13 rfl ?_ | refine z19 ?_ | refine z10 ?_ | refine z23 ?_ | refine z18 ?_ | refine z11 ?_)
    simp (maxSteps := 4000000) only [go_sem, hab]
theorem z267 {a b : List (List Int)} (hl : a.length = b.length) (h : a.take a.length = b.take a.length) : a = b := by
  rw [List.take_length, hl, List.take_length] at h
  exact h
theorem zf20 (a b : List (List Int)) (ha : a.length < 2 ^ 30) (har : ∀ r ∈ a, r.length < 2 ^ 30) : Fn Try.prog 20 [.sl (listRows a), .sl (listRows b)] (.bool (decide (a = b))) := by
  refine z31 27 Try.call20 Try.func20 rfl (by decide) fun J => ?_
  simp (maxSteps := 4000000) only [go_sem, St.start, Try.ntmps20, Try.results20]
  repeat (first | refine z21 ?_ | refine z16 ?_ | refine z14 ?_ | (refine z12 fun K hK => ?_; simp (maxSteps := 4000000) only [go_sem, z37]; refine hK _ ?_; clear hK K) | refine z20 ?_ | refine z22 ?_ | refine z17 ?_ | refine z15 ?_ | refine z13 rfl ?_ | refine z19 ?_ | refine z10 ?_ | refine z23 ?_ | refine z18 ?_ | refine z11 ?_)
  by_cases hl : a.length = b.length
  · have hne : ((a.length : Int) != (b.length : Int)) = false := by simp [hl]
    simp (maxSteps := 4000000) only [go_sem, hne]
    refine z24 rfl ?_
    repeat (first | refine z21 ?_ | refine z16 ?_ | refine z14 ?_ | (refine z12 fun K hK => ?_; simp (maxSteps := 4000000) only [go_sem]; refine hK _ ?_; clear hK K) | refine z20 ?_ | refine z22 ?_ | refine z17 ?_ | refine z15 ?_ | refine z13 rfl ?_ | refine z19 ?_ | refine z10 ?_ | refine z23 ?_ | refine z18 ?_ | refine z11 ?_)
    refine z29 (fun (i : Nat) => [(5, .d (.i i))]) (fun _ => []) (fun i => i ≤ a.length ∧ a.take i = b.take i) (fun i => a.length - i) 0 ?_ ⟨Nat.zero_le _, by simp⟩ ?_
    · simp (maxSteps := 4000000) only [go_sem]
      refine z26 [] ?_ ?_ rfl rfl <;> simp [lessT, lessM, lessB, AV.less]
    · intro i ⟨hi, heq⟩
      simp (maxSteps := 4000000) only [go_sem]
      repeat (first | refine z21 ?_ | refine z16 ?_ | refine z14 ?_ | (refine z12 fun K hK => ?_; simp (maxSteps := 4000000) only [go_sem, z37]; refine hK _ ?_; clear hK K) | refine z20 ?_ | refine z22 ?_ | refine z17 ?_ | refine z15 ?_ | refine z13 rfl ?_ | refine z19 ?_ | refine z10 ?_ | refine z23 ?_ | refine z18 ?_ | refine z11 ?_)
      refine z27 rfl (fun hb => ?_) (fun hb => ?_)
      · have hlt : i < a.length := by simpa using hb
        have hw : IntKind.i64.wrap ((i : Int) + 1) = ((i + 1 : Nat) : Int) := by rw [z30 (by omega)]; simp
        obtain ⟨x, hx⟩ : ∃ x, a[i]? = some x := ⟨_, List.getElem?_eq_getElem hlt⟩
        obtain ⟨y, hy⟩ : ∃ y, b[i]? = some y := ⟨_, List.getElem?_eq_getElem (hl ▸ hlt)⟩
        have g1 := z48 hx
        have g2 := z48 hy
        have h21 := zf21 x y (har x (List.mem_of_getElem? hx))
        by_cases hc : x = y
        · have hd : decide (x = y) = true := decide_eq_true hc
          rw [hd] at h21
          repeat (first | refine z21 ?_ | refine z16 ?_ | refine z14 ?_ | (refine z12 fun K hK => ?_; simp (maxSteps := 4000000) only [go_sem]; refine hK _ ?_; clear hK K) | refine z20 ?_ | refine z22 ?_ | refine z17 ?_ | refine z15 ?_ | refine z13 rfl ?_ | refine z19 ?_ | refine z10 ?_ | refine z23 ?_ | refine z18 ?_ | refine z11 ?_)
          refine z28 (by kernel_rfl) (by kernel_rfl) fun K hK => ?_
          simp (maxSteps := 4000000) only [go_sem, g1, g2]
          refine ⟨_, .fn (hf := h21) (hd := rfl) (hr := .inl rfl), ?_⟩
          simp (maxSteps := 4000000) only [go_sem]
          refine ⟨by kernel_rfl, hK _ ?_⟩
          clear hK K
          repeat (first | refine z25 rfl ?_ | refine z24 rfl ?_ | refine z21 ?_ | refine z16 ?_ | refine z14 ?_ | (refine z12 fun K hK => ?_; simp (maxSteps := 4000000) only [go_sem, hw]; refine hK _ ?_; clear hK K) | refine z20 ?_ | refine z22 ?_ | refine z17 ?_ | refine z15 ?_ | refine z13 rfl ?_ | refine z19 ?_ | refine z10 ?_ | refine z23 ?_ | refine z18 ?_ | refine z11 ?_)
          refine ⟨rfl, i + 1, ?_, ⟨hlt, by rw [List.take_add_one, List.take_add_one, heq, hx, hy, hc]⟩, by omega⟩
          refine z26 [] ?_ ?_ rfl rfl <;> simp [lessT, lessM, lessB, AV.less]
        · have hd : decide (x = y) = false := decide_eq_false hc
          rw [hd] at h21
          have hab : ¬ a = b := by rintro rfl; rw [hx] at hy; cases hy; exact hc rfl
          repeat (first | refine z21 ?_ | refine z16 ?_ | refine z14 ?_ | (refine z12 fun K hK => ?_; simp (maxSteps := 4000000) only [go_sem]; refine hK _ ?_; clear hK K) | refine z20 ?_ | refine z22 ?_ | refine z17 ?_ | refine z15 ?_ | refine z13 rfl ?_ | refine z19 ?_ | refine z10 ?_ | refine z23 ?_ | refine z18 ?_ | refine z11 ?_)
          refine z28 (by kernel_rfl) (by kernel_rfl) fun K hK => ?_
          simp (maxSteps := 4000000) only [go_sem, g1, g2]
          refine ⟨_, .fn (hf := h21) (hd := rfl) (hr := .inl rfl), ?_⟩
          simp (maxSteps := 4000000) only [go_sem]
          refine ⟨by kernel_rfl, hK _ ?_⟩
          clear hK K
          repeat (first | refine z25 rfl ?_ | refine z24 rfl ?_ | refine z21 ?_ | refine z16 ?_ | refine z14 ?_ | (refine z12 fun K hK => ?_; simp (maxSteps := 4000000) only [go_sem]; refine hK _ ?_; clear hK K) | refine z20 ?_ | refine z22 ?_ | refine z17 ?_ | refine z15 ?_ | refine z13 rfl ?_ | refine z19 ?_ | refine z10 ?_ | refine z23 ?_ | refine z18 ?_ | refine z11 ?_)
          simp (maxSteps := 4000000) only [go_sem, hab]
      · have he : i = a.length := by (have : ¬ i < a.length := by simpa using hb); omega
        subst he
        have hab : a = b := z267 hl heq
        repeat (first | refine z21 ?_ | refine z16 ?_ | refine z14 ?_ | (refine z12 fun K hK => ?_; simp (maxSteps := 4000000) only [go_sem]; refine hK _ ?_; clear hK K) | refine z20 ?_ | refine z22 ?_ | refine z17 ?_ | refine z15 ?_ | refine z13 rfl ?_ | refine z19 ?_ | refine z10 ?_ | refine z23 ?_ | refine z18 ?_ | refine z11 ?_)
        simp (maxSteps := 4000000) only [go_sem, hab]
  · have hne : ((a.length : Int) != (b.length : Int)) = true := by simp; omega
    have hab : ¬ a = b := by rintro rfl; exact hl rfl
    simp (maxSteps := 4000000) only [go_sem, hne]
    refine z25 rfl ?_
    repeat (first | refine z21 ?_ | refine z16 ?_ | refine z14 ?_ | (refine z12 fun K hK => ?_; simp (maxSteps := 4000000) only [go_sem]; refine hK _ ?_; clear hK K) | refine z20 ?_ | refine z22 ?_ | refine z17 ?_ | refine z15 ?_ | refine z13 rfl ?_ | refine z19 ?_ | refine z10 ?_ | refine z23 ?_ | refine z18 ?_ | refine z11 ?_)
    simp (maxSteps := 4000000) only [go_sem, hab]
end Go.Ab
namespace Go.Ab
open Go.RowKit Go.Proofs
set_option maxHeartbeats 16000000
set_option maxRecDepth 20000
attribute [local irreducible] WalkL Walk
theorem exK_cook : cookP exK exM [[2, 1], [2, 1], [2, 1]] = ([0, 100, 1100], 200, 3, 0) := by decide +kernel
theorem exK_kit : kitE exK = 0 := by decide +kernel
theorem exK_menus : (planL exK 3).2 = [[0, 1], [0, 1], [1, 1]] := by decide +kernel
theorem exK_waste : wasteK exK = 0 := by decide +kernel
theorem exK_plan : planK exK = ([[0, 1], [0, 1], [1, 1]], 0, 0) := by
  have e : exK.days.length = 3 := rfl
  rw [planK, if_pos exK_kit, exK_waste, if_neg (by decide), e, exK_menus]
theorem zf13 : Fn Try.prog 13 [] (.bool true) := by
  have h39 := zf39
  have h25 := zf25 exK exM [[2, 1], [2, 1], [2, 1]] z286 (by decide) (by decide) (by decide) (by decide)
  have h17 := zf17 exK exM z286 (by decide) (by decide)
  have h15 := zf15 exK z286
  have h21a := zf21 [0, 100, 1100] [0, 100, 1100] (by decide)
  have h21b := zf21 [300, 0] [300, 0] (by decide)
  have h20 := zf20 [[0, 1], [0, 1], [1, 1]] [[0, 1], [0, 1], [1, 1]] (by decide) (by decide)
  rw [exK_cook] at h25
  rw [exK_plan] at h15
  rw [exK_open, if_pos rfl, exK_order] at h17
  rw [show decide (([0, 100, 1100] : List Int) = [0, 100, 1100]) = true by decide] at h21a
  rw [show decide (([300, 0] : List Int) = [300, 0]) = true by decide] at h21b
  rw [show decide (([[0, 1], [0, 1], [1, 1]] : List (List Int)) = [[0, 1], [0, 1], [1, 1]]) = true by decide] at h20
  rw [Kitchen.cells] at h39 h25 h17 h15
  refine z31 80 Try.call13 Try.func13 rfl (by decide) fun J => ?_
  simp (maxSteps := 4000000) only [go_sem, St.start, Try.ntmps13, Try.results13]
  repeat (first | refine z25 rfl ?_ | refine z24 rfl ?_ | refine z21 ?_ | refine z16 ?_ | refine z14 ?_ | (refine z12 fun K hK => ?_; simp (maxSteps := 4000000) only [go_sem]; (repeat (first | (refine ⟨_, .lent (hf := h39) (hd := rfl) (hr := rfl), ?_⟩; simp (maxSteps := 4000000) only [go_sem]) | (refine ⟨_, .lent (hf := h25) (hd := rfl) (hr := rfl), ?_⟩; simp (maxSteps := 4000000) only [go_sem]) | (refine ⟨_, .lent (hf := h17) (hd := rfl) (hr := rfl), ?_⟩; simp (maxSteps := 4000000) only [go_sem]) | (refine ⟨_, .lent (hf := h15) (hd := rfl) (hr := rfl), ?_⟩; simp (maxSteps := 4000000) only [go_sem]) | (refine ⟨_, .lent (hf := h21a) (hd := rfl) (hr := rfl), ?_⟩; simp (maxSteps := 4000000) only [go_sem]) | (refine ⟨_, .lent (hf := h21b) (hd := rfl) (hr := rfl), ?_⟩; simp (maxSteps := 4000000) only [go_sem]) | (refine ⟨_, .lent (hf := h20) (hd := rfl) (hr := rfl), ?_⟩; simp (maxSteps := 4000000) only [go_sem]) | (refine ⟨_, .given (hf := h39) (hd := rfl) (ha := rfl), ?_⟩; simp (maxSteps := 4000000) only [go_sem]) | (refine ⟨_, .given (hf := h25) (hd := rfl) (ha := rfl), ?_⟩; simp (maxSteps := 4000000) only [go_sem]) | (refine ⟨_, .given (hf := h17) (hd := rfl) (ha := rfl), ?_⟩; simp (maxSteps := 4000000) only [go_sem]) | (refine ⟨_, .given (hf := h15) (hd := rfl) (ha := rfl), ?_⟩; simp (maxSteps := 4000000) only [go_sem]) | (refine ⟨_, .given (hf := h21a) (hd := rfl) (ha := rfl), ?_⟩; simp (maxSteps := 4000000) only [go_sem]) | (refine ⟨_, .given (hf := h21b) (hd := rfl) (ha := rfl), ?_⟩; simp (maxSteps := 4000000) only [go_sem]) | (refine ⟨_, .given (hf := h20) (hd := rfl) (ha := rfl), ?_⟩; simp (maxSteps := 4000000) only [go_sem]))); refine hK _ ?_; clear hK K) | refine z20 ?_ | refine z22 ?_ | refine z17 ?_ | refine z15 ?_ | refine z13 rfl ?_ | refine z19 ?_ | refine z10 ?_ | refine z23 ?_ | refine z18 ?_ | refine z11 ?_)
  simp (maxSteps := 4000000) only [go_sem]
end Go.Ab
namespace Go.Ab
open Go.RowKit Go.Proofs
set_option maxHeartbeats 8000000
set_option maxRecDepth 20000
attribute [local irreducible] WalkL Walk
theorem zf51 (n lo hi : Int) : Fn Try.prog 51 [.i n, .i lo, .i hi] (.bool (withinB n lo hi)) := by
  unfold withinB
  refine z31 15 Try.call51 Try.func51 rfl (by decide) fun J => ?_
  simp (maxSteps := 4000000) only [go_sem, St.start, Try.ntmps51, Try.results51]
  cases q : decide (lo ≤ n)
  · repeat (first | refine z21 ?_ | refine z16 ?_ | refine z14 ?_ | (refine z12 fun K hK => ?_; simp (maxSteps := 4000000) only [go_sem, q]; refine hK _ ?_; clear hK K) | refine z20 ?_ | refine z22 ?_ | refine z17 ?_ | refine z15 ?_ | refine z13 rfl ?_ | refine z19 ?_ | refine z10 ?_ | refine z23 ?_ | refine z18 ?_ | refine z11 ?_)
    simp (maxSteps := 4000000) only [go_sem, Bool.false_and]
  · repeat (first | refine z21 ?_ | refine z16 ?_ | refine z14 ?_ | (refine z12 fun K hK => ?_; simp (maxSteps := 4000000) only [go_sem, q]; refine hK _ ?_; clear hK K) | refine z20 ?_ | refine z22 ?_ | refine z17 ?_ | refine z15 ?_ | refine z13 rfl ?_ | refine z19 ?_ | refine z10 ?_ | refine z23 ?_ | refine z18 ?_ | refine z11 ?_)
    simp (maxSteps := 4000000) only [go_sem, Bool.true_and]
theorem zf60 (k : Kitchen) (b : Batch) (hg : k.allerg.length < 2 ^ 30) : Fn Try.prog 60 [.agg k.cells, .agg b.row] (.bool (batchB k.allerg.length b)) := by
  have h1 := zf51 b.good 0 ((k.allerg.length : Int) - 1)
  have h2 := zf51 b.amount 0 1000000
  have h3 := zf51 b.last 0 30
  have w : IntKind.i64.wrap ((k.allerg.length : Int) - 1) = (k.allerg.length : Int) - 1 := z30 (by omega)
  unfold batchB
  obtain ⟨b1, e1⟩ : ∃ x, x = withinB b.good 0 ((k.allerg.length : Int) - 1) := ⟨_, rfl⟩
  obtain ⟨b2, e2⟩ : ∃ x, x = withinB b.amount 0 1000000 := ⟨_, rfl⟩
  obtain ⟨b3, e3⟩ : ∃ x, x = withinB b.last 0 30 := ⟨_, rfl⟩
  rw [← e1] at h1 ⊢
  rw [← e2] at h2 ⊢
  rw [← e3] at h3 ⊢
  refine z31 22 Try.call60 Try.func60 rfl (by decide) fun J => ?_
  simp (maxSteps := 4000000) only [go_sem, St.start, Try.ntmps60, Try.results60, Batch.row, Kitchen.cells]
  cases b1 <;> cases b2
  all_goals
    repeat (first | refine z21 ?_ | refine z16 ?_ | refine z14 ?_ | (refine z12 fun K hK => ?_; simp (maxSteps := 4000000) only [go_sem, w]; (repeat (first | (refine ⟨_, .lent (hf := h1) (hd := rfl) (hr := rfl), ?_⟩; simp (maxSteps := 4000000) only [go_sem, w]) | (refine ⟨_, .lent (hf := h2) (hd := rfl) (hr := rfl), ?_⟩; simp (maxSteps := 4000000) only [go_sem, w]) | (refine ⟨_, .lent (hf := h3) (hd := rfl) (hr := rfl), ?_⟩; simp (maxSteps := 4000000) only [go_sem, w]) | (refine ⟨_, .given (hf := h1) (hd := rfl) (ha := rfl), ?_⟩; simp (maxSteps := 4000000) only [go_sem, w]) | (refine ⟨_, .given (hf := h2) (hd := rfl) (ha := rfl), ?_⟩; simp (maxSteps := 4000000) only [go_sem, w]) | (refine ⟨_, .given (hf := h3) (hd := rfl) (ha := rfl), ?_⟩; simp (maxSteps := 4000000) only [go_sem, w]))); refine hK _ ?_; clear hK K) | refine z20 ?_ | refine z22 ?_ | refine z17 ?_ | refine z15 ?_ | refine z13 rfl ?_ | refine z19 ?_ | refine z10 ?_ | refine z23 ?_ | refine z18 ?_ | refine z11 ?_)
    simp (maxSteps := 4000000) only [go_sem, Bool.false_and, Bool.true_and]
theorem zf61 (k : Kitchen) (d : Dish) (hg : k.allerg.length < 2 ^ 30) (hd : d.needs.length < 2 ^ 30) : Fn Try.prog 61 [.agg k.cells, .agg d.row] (.bool (dishB k.allerg.length d)) := by
  unfold dishB
  obtain ⟨R, hR⟩ : ∃ R, R = (((d.needs.length : Int) == (k.allerg.length : Int)) && d.needs.all needB) := ⟨_, rfl⟩
  rw [← hR]
  obtain ⟨N, hN⟩ : ∃ N, N = d.needs := ⟨_, rfl⟩
  rw [← hN] at hd hR
  refine z31 27 Try.call61 Try.func61 rfl (by decide) fun J => ?_
  simp (maxSteps := 4000000) only [go_sem, St.start, Try.ntmps61, Try.results61, Dish.row, Kitchen.cells]
  rw [← hN]
  repeat (first | refine z21 ?_ | refine z16 ?_ | refine z14 ?_ | (refine z12 fun K hK => ?_; simp (maxSteps := 4000000) only [go_sem]; refine hK _ ?_; clear hK K) | refine z20 ?_ | refine z22 ?_ | refine z17 ?_ | refine z15 ?_ | refine z13 rfl ?_ | refine z19 ?_ | refine z10 ?_ | refine z23 ?_ | refine z18 ?_ | refine z11 ?_)
  refine z29 (fun (i : Nat) => [(5, .d (.i (i : Int)))]) (fun _ => []) (fun i => i ≤ N.length ∧ N.all needB = (N.drop i).all needB) (fun i => N.length - i) 0 ?_ ⟨Nat.zero_le _, rfl⟩ ?_
  · simp (maxSteps := 4000000) only [go_sem]
    refine z26 [] ?_ ?_ rfl rfl <;> simp [lessT, lessM, lessB, AV.less]
  · rintro i ⟨hi, hall⟩
    simp (maxSteps := 4000000) only [go_sem]
    repeat (first | refine z21 ?_ | refine z16 ?_ | refine z14 ?_ | (refine z12 fun K hK => ?_; simp (maxSteps := 4000000) only [go_sem]; refine hK _ ?_; clear hK K) | refine z20 ?_ | refine z22 ?_ | refine z17 ?_ | refine z15 ?_ | refine z13 rfl ?_ | refine z19 ?_ | refine z10 ?_ | refine z23 ?_ | refine z18 ?_ | refine z11 ?_)
    refine z27 rfl (fun hb => ?_) (fun hb => ?_)
    · have hlt : i < N.length := by simpa using hb
      have hw : IntKind.i64.wrap ((i : Int) + 1) = ((i + 1 : Nat) : Int) := by rw [z30 (by omega)]; simp
      obtain ⟨x, hx⟩ : ∃ x, N[i]? = some x := ⟨_, List.getElem?_eq_getElem hlt⟩
      have g1 := z46 hx
      have hni : ¬ ((i : Int) < 0) := by omega
      have hc := zf51 x 0 5000
      rw [z36 hx, List.all_cons] at hall
      cases q : needB x
      · rw [q, Bool.false_and] at hall
        rw [hall, Bool.and_false] at hR
        rw [needB] at q
        rw [q] at hc
        repeat (first | refine z25 rfl ?_ | refine z24 rfl ?_ | refine z21 ?_ | refine z16 ?_ | refine z14 ?_ | (refine z12 fun K hK => ?_; simp (maxSteps := 4000000) only [go_sem, g1, hni]; (repeat (first | (refine ⟨_, .lent (hf := hc) (hd := rfl) (hr := rfl), ?_⟩; simp (maxSteps := 4000000) only [go_sem, g1, hni]) | (refine ⟨_, .given (hf := hc) (hd := rfl) (ha := rfl), ?_⟩; simp (maxSteps := 4000000) only [go_sem, g1, hni]))); refine hK _ ?_; clear hK K) | refine z20 ?_ | refine z22 ?_ | refine z17 ?_ | refine z15 ?_ | refine z13 rfl ?_ | refine z19 ?_ | refine z10 ?_ | refine z23 ?_ | refine z18 ?_ | refine z11 ?_)
        simp (maxSteps := 4000000) only [go_sem, hR]
      · rw [q, Bool.true_and] at hall
        rw [needB] at q
        rw [q] at hc
        repeat (first | refine z25 rfl ?_ | refine z24 rfl ?_ | refine z21 ?_ | refine z16 ?_ | refine z14 ?_ | (refine z12 fun K hK => ?_; simp (maxSteps := 4000000) only [go_sem, g1, hni, hw]; (repeat (first | (refine ⟨_, .lent (hf := hc) (hd := rfl) (hr := rfl), ?_⟩; simp (maxSteps := 4000000) only [go_sem, g1, hni, hw]) | (refine ⟨_, .given (hf := hc) (hd := rfl) (ha := rfl), ?_⟩; simp (maxSteps := 4000000) only [go_sem, g1, hni, hw]))); refine hK _ ?_; clear hK K) | refine z20 ?_ | refine z22 ?_ | refine z17 ?_ | refine z15 ?_ | refine z13 rfl ?_ | refine z19 ?_ | refine z10 ?_ | refine z23 ?_ | refine z18 ?_ | refine z11 ?_)
        refine ⟨rfl, i + 1, ?_, ⟨hlt, hall⟩, by omega⟩
        refine z26 [] ?_ ?_ rfl rfl <;> simp [lessT, lessM, lessB, AV.less]
    · have he : i = N.length := by (have : ¬ i < N.length := by simpa using hb); omega
      subst he
      rw [List.drop_length, List.all_nil] at hall
      rw [hall, Bool.and_true] at hR
      repeat (first | refine z21 ?_ | refine z16 ?_ | refine z14 ?_ | (refine z12 fun K hK => ?_; simp (maxSteps := 4000000) only [go_sem]; refine hK _ ?_; clear hK K) | refine z20 ?_ | refine z22 ?_ | refine z17 ?_ | refine z15 ?_ | refine z13 rfl ?_ | refine z19 ?_ | refine z10 ?_ | refine z23 ?_ | refine z18 ?_ | refine z11 ?_)
      simp (maxSteps := 4000000) only [go_sem, hR]
def badK1 (k : Kitchen) : Bool := !withinB (k.allerg.length : Int) 1 6 || (decide ((k.batches.length : Int) > 10) || (!withinB (k.dishes.length : Int) 1 5 || !withinB (k.days.length : Int) 1 6))
theorem kitE_bad {k : Kitchen} (h : badKit k = true) : kitE k = 70 := by rw [kitE, h]; rfl
theorem kitE_good {k : Kitchen} (h : badKit k = false) : kitE k = 0 := by rw [kitE, h]; rfl
def badG (g : Diners) : Bool := !withinB g.no 0 255 || (!withinB g.count.lo 0 g.count.hi || decide (g.count.hi > 100))
theorem groupB_eq (g : Diners) : groupB g = !badG g := by
  unfold groupB badG setB withinB
  rw [Bool.eq_iff_iff]
  simp
  intro _ _
  exact and_assoc.symm
theorem zf32 (k : Kitchen) (hs : KitSmall k) : Fn Try.prog 32 [.agg k.cells] (.i (kitE k)) := by
  have a1 := hs.allerg
  have h1 := zf51 (k.allerg.length : Int) 1 6
  have h5 := zf51 (k.dishes.length : Int) 1 5
  have h7 := zf51 (k.days.length : Int) 1 6
  have h92 := fun b => zf60 k b a1
  have h93 := fun d hd => zf61 k d a1 hd
  have a2 := hs.batches
  have a3 := hs.dishes
  have a4 := hs.needs
  have a5 := hs.days
  have a6 := hs.groups
  have kB : badKit k = (badK1 k || (!k.allerg.all setB || (!k.batches.all (batchB k.allerg.length) || (!k.dishes.all (dishB k.allerg.length) || !k.days.all dayB)))) := by
    unfold badKit badK1
    cases withinB (k.allerg.length : Int) 1 6 <;> cases decide ((k.batches.length : Int) > 10) <;> cases withinB (k.dishes.length : Int) 1 5 <;> cases withinB (k.days.length : Int) 1 6 <;> simp
  have kb := @kitE_bad k
  have kg := @kitE_good k
  rw [kB] at kb kg
  obtain ⟨E, hE⟩ : ∃ E, E = kitE k := ⟨_, rfl⟩
  rw [← hE] at kb kg ⊢
  rw [Kitchen.cells] at h92 h93
  refine z31 130 Try.call32 Try.func32 rfl (by decide) fun J => ?_
  simp (maxSteps := 4000000) only [go_sem, St.start, Try.ntmps32, Try.results32, Kitchen.cells]
  repeat (first | refine z21 ?_ | refine z16 ?_ | refine z14 ?_ | (refine z12 fun K hK => ?_; simp (maxSteps := 4000000) only [go_sem]; refine hK _ ?_; clear hK K) | refine z20 ?_ | refine z22 ?_ | refine z17 ?_ | refine z15 ?_ | refine z13 rfl ?_ | refine z19 ?_ | refine z10 ?_ | refine z23 ?_ | refine z18 ?_ | refine z11 ?_)
  refine z127 [(33, .d (.bool (badK1 k)))] [] ?_ ?_
  · refine z12 fun K hK => ?_
    simp (maxSteps := 4000000) only [go_sem]
    refine ⟨_, .lent (hf := h1) (hd := rfl) (hr := rfl), ?_⟩
    simp (maxSteps := 4000000) only [go_sem]
    by_cases ho0 : (!withinB (k.allerg.length : Int) 1 6) = true
    · simp (maxSteps := 4000000) only [go_sem, ho0]
      refine hK _ ?_
      clear hK K
      refine z20 ?_
      refine z11 ?_
      refine ⟨rfl, ?_⟩
      rw [show (badK1 k) = (true) from by simp [badK1, ho0]]
      simp (maxSteps := 4000000) only [go_sem]
      refine z26 [] ?_ ?_ rfl rfl <;> simp [lessT, lessM, lessB, AV.less]
    · simp (maxSteps := 4000000) only [go_sem, ho0]
      by_cases ho1 : (decide ((k.batches.length : Int) > 10)) = true
      · simp (maxSteps := 4000000) only [go_sem, ho0, ho1]
        refine hK _ ?_
        clear hK K
        refine z20 ?_
        refine z11 ?_
        refine ⟨rfl, ?_⟩
        rw [show (badK1 k) = (true) from by simp [badK1, ho0, ho1]]
        simp (maxSteps := 4000000) only [go_sem]
        refine z26 [] ?_ ?_ rfl rfl <;> simp [lessT, lessM, lessB, AV.less]
      · simp (maxSteps := 4000000) only [go_sem, ho0, ho1]
        refine ⟨_, .lent (hf := h5) (hd := rfl) (hr := rfl), ?_⟩
        simp (maxSteps := 4000000) only [go_sem, ho0, ho1]
        by_cases ho2 : (!withinB (k.dishes.length : Int) 1 5) = true
        · simp (maxSteps := 4000000) only [go_sem, ho0, ho1, ho2]
          refine hK _ ?_
          clear hK K
          refine z20 ?_
          refine z11 ?_
          refine ⟨rfl, ?_⟩
          rw [show (badK1 k) = (true) from by simp [badK1, ho0, ho1, ho2]]
          simp (maxSteps := 4000000) only [go_sem]
          refine z26 [] ?_ ?_ rfl rfl <;> simp [lessT, lessM, lessB, AV.less]
        · simp (maxSteps := 4000000) only [go_sem, ho0, ho1, ho2]
          refine ⟨_, .lent (hf := h7) (hd := rfl) (hr := rfl), ?_⟩
          simp (maxSteps := 4000000) only [go_sem, ho0, ho1, ho2]
          refine hK _ ?_
          clear hK K
          refine z20 ?_
          refine z11 ?_
          refine ⟨rfl, ?_⟩
          rw [show (badK1 k) = (!withinB (k.days.length : Int) 1 6) from by simp [badK1, ho0, ho1, ho2]]
          simp (maxSteps := 4000000) only [go_sem]
          refine z26 [] ?_ ?_ rfl rfl <;> simp [lessT, lessM, lessB, AV.less]
  simp (maxSteps := 4000000) only [go_sem]
  repeat (first | refine z21 ?_ | refine z16 ?_ | refine z14 ?_ | (refine z12 fun K hK => ?_; simp (maxSteps := 4000000) only [go_sem]; refine hK _ ?_; clear hK K) | refine z20 ?_ | refine z22 ?_ | refine z17 ?_ | refine z15 ?_ | refine z13 rfl ?_ | refine z19 ?_ | refine z10 ?_ | refine z23 ?_ | refine z18 ?_ | refine z11 ?_)
  refine z27 rfl (fun hc => ?_) (fun hc => ?_)
  · rw [hc, Bool.true_or] at kb
    have kb := kb rfl
    subst kb
    rw [hc]
    repeat (first | refine z21 ?_ | refine z16 ?_ | refine z14 ?_ | (refine z12 fun K hK => ?_; simp (maxSteps := 4000000) only [go_sem]; refine hK _ ?_; clear hK K) | refine z20 ?_ | refine z22 ?_ | refine z17 ?_ | refine z15 ?_ | refine z13 rfl ?_ | refine z19 ?_ | refine z10 ?_ | refine z23 ?_ | refine z18 ?_ | refine z11 ?_)
    simp (maxSteps := 4000000) only [go_sem, if_true]
  · rw [hc, Bool.false_or] at kb kg
    rw [hc]
    repeat (first | refine z21 ?_ | refine z16 ?_ | refine z14 ?_ | (refine z12 fun K hK => ?_; simp (maxSteps := 4000000) only [go_sem]; refine hK _ ?_; clear hK K) | refine z20 ?_ | refine z22 ?_ | refine z17 ?_ | refine z15 ?_ | refine z13 rfl ?_ | refine z19 ?_ | refine z10 ?_ | refine z23 ?_ | refine z18 ?_ | refine z11 ?_)
    refine z29 (fun (i : Nat) => [(3, .d (.i (i : Int)))]) (fun _ => []) (fun i => i ≤ k.allerg.length ∧ k.allerg.all (setB) = (k.allerg.drop i).all (setB)) (fun i => k.allerg.length - i) 0 ?_ ⟨Nat.zero_le _, rfl⟩ ?_
    · simp (maxSteps := 4000000) only [go_sem]
      refine z26 [] ?_ ?_ rfl rfl <;> simp [lessT, lessM, lessB, AV.less]
    · rintro i ⟨hi, hall⟩
      simp (maxSteps := 4000000) only [go_sem]
      repeat (first | refine z21 ?_ | refine z16 ?_ | refine z14 ?_ | (refine z12 fun K hK => ?_; simp (maxSteps := 4000000) only [go_sem]; refine hK _ ?_; clear hK K) | refine z20 ?_ | refine z22 ?_ | refine z17 ?_ | refine z15 ?_ | refine z13 rfl ?_ | refine z19 ?_ | refine z10 ?_ | refine z23 ?_ | refine z18 ?_ | refine z11 ?_)
      refine z27 rfl (fun hb => ?_) (fun hb => ?_)
      · have hlt : i < k.allerg.length := by simpa using hb
        have hw : IntKind.i64.wrap ((i : Int) + 1) = ((i + 1 : Nat) : Int) := by rw [z30 (by omega)]; simp
        obtain ⟨x, hx⟩ : ∃ x, k.allerg[i]? = some x := ⟨_, List.getElem?_eq_getElem hlt⟩
        have g1 := z46 hx
        have hni : ¬ ((i : Int) < 0) := by omega
        have hc := zf51 x 0 255
        rw [z36 hx, List.all_cons] at hall
        cases q : (setB) x
        · rw [q, Bool.false_and] at hall
          rw [hall] at kb
          have kb := kb rfl
          subst kb
          rw [setB] at q
          rw [q] at hc
          repeat (first | refine z25 rfl ?_ | refine z24 rfl ?_ | refine z21 ?_ | refine z16 ?_ | refine z14 ?_ | (refine z12 fun K hK => ?_; simp (maxSteps := 4000000) only [go_sem, g1, hni]; (repeat (first | (refine ⟨_, .lent (hf := hc) (hd := rfl) (hr := rfl), ?_⟩; simp (maxSteps := 4000000) only [go_sem, g1, hni]) | (refine ⟨_, .given (hf := hc) (hd := rfl) (ha := rfl), ?_⟩; simp (maxSteps := 4000000) only [go_sem, g1, hni]))); refine hK _ ?_; clear hK K) | refine z20 ?_ | refine z22 ?_ | refine z17 ?_ | refine z15 ?_ | refine z13 rfl ?_ | refine z19 ?_ | refine z10 ?_ | refine z23 ?_ | refine z18 ?_ | refine z11 ?_)
          simp (maxSteps := 4000000) only [go_sem]
        · rw [q, Bool.true_and] at hall
          rw [setB] at q
          rw [q] at hc
          repeat (first | refine z25 rfl ?_ | refine z24 rfl ?_ | refine z21 ?_ | refine z16 ?_ | refine z14 ?_ | (refine z12 fun K hK => ?_; simp (maxSteps := 4000000) only [go_sem, g1, hni, hw]; (repeat (first | (refine ⟨_, .lent (hf := hc) (hd := rfl) (hr := rfl), ?_⟩; simp (maxSteps := 4000000) only [go_sem, g1, hni, hw]) | (refine ⟨_, .given (hf := hc) (hd := rfl) (ha := rfl), ?_⟩; simp (maxSteps := 4000000) only [go_sem, g1, hni, hw]))); refine hK _ ?_; clear hK K) | refine z20 ?_ | refine z22 ?_ | refine z17 ?_ | refine z15 ?_ | refine z13 rfl ?_ | refine z19 ?_ | refine z10 ?_ | refine z23 ?_ | refine z18 ?_ | refine z11 ?_)
          refine ⟨rfl, i + 1, ?_, ⟨hlt, hall⟩, by omega⟩
          refine z26 [] ?_ ?_ rfl rfl <;> simp [lessT, lessM, lessB, AV.less]
      · have he : i = k.allerg.length := by (have : ¬ i < k.allerg.length := by simpa using hb); omega
        subst he
        rw [List.drop_length, List.all_nil] at hall
        rw [hall, Bool.not_true, Bool.false_or] at kb kg
        clear hall
        repeat (first | refine z21 ?_ | refine z16 ?_ | refine z14 ?_ | (refine z12 fun K hK => ?_; simp (maxSteps := 4000000) only [go_sem]; refine hK _ ?_; clear hK K) | refine z20 ?_ | refine z22 ?_ | refine z17 ?_ | refine z15 ?_ | refine z13 rfl ?_ | refine z19 ?_ | refine z10 ?_ | refine z23 ?_ | refine z18 ?_ | refine z11 ?_)
        refine z29 (fun (i : Nat) => [(4, .d (.i (i : Int)))]) (fun _ => []) (fun i => i ≤ k.batches.length ∧ k.batches.all (batchB k.allerg.length) = (k.batches.drop i).all (batchB k.allerg.length)) (fun i => k.batches.length - i) 0 ?_ ⟨Nat.zero_le _, rfl⟩ ?_
        · simp (maxSteps := 4000000) only [go_sem]
          refine z26 [] ?_ ?_ rfl rfl <;> simp [lessT, lessM, lessB, AV.less]
        · rintro i ⟨hi, hall⟩
          simp (maxSteps := 4000000) only [go_sem]
          repeat (first | refine z21 ?_ | refine z16 ?_ | refine z14 ?_ | (refine z12 fun K hK => ?_; simp (maxSteps := 4000000) only [go_sem]; refine hK _ ?_; clear hK K) | refine z20 ?_ | refine z22 ?_ | refine z17 ?_ | refine z15 ?_ | refine z13 rfl ?_ | refine z19 ?_ | refine z10 ?_ | refine z23 ?_ | refine z18 ?_ | refine z11 ?_)
          refine z27 rfl (fun hb => ?_) (fun hb => ?_)
          · have hlt : i < k.batches.length := by simpa using hb
            have hw : IntKind.i64.wrap ((i : Int) + 1) = ((i + 1 : Nat) : Int) := by rw [z30 (by omega)]; simp
            obtain ⟨x, hx⟩ : ∃ x, k.batches[i]? = some x := ⟨_, List.getElem?_eq_getElem hlt⟩
            have g1 := z225 hx
            have hni : ¬ ((i : Int) < 0) := by omega
            have hc := h92 x
            rw [Batch.row] at g1 hc
            rw [z36 hx, List.all_cons] at hall
            cases q : (batchB k.allerg.length) x
            · rw [q, Bool.false_and] at hall
              rw [hall] at kb
              have kb := kb rfl
              subst kb
              skip
              rw [q] at hc
              repeat (first | refine z21 ?_ | refine z16 ?_ | refine z14 ?_ | (refine z12 fun K hK => ?_; simp (maxSteps := 4000000) only [go_sem]; refine hK _ ?_; clear hK K) | refine z20 ?_ | refine z22 ?_ | refine z17 ?_ | refine z15 ?_ | refine z13 rfl ?_ | refine z19 ?_ | refine z10 ?_ | refine z23 ?_ | refine z18 ?_ | refine z11 ?_)
              refine z28 (by kernel_rfl) (by kernel_rfl) fun K hK => ?_
              simp (maxSteps := 4000000) only [go_sem, g1, hni]
              refine ⟨_, .fn (hf := hc) (hd := rfl) (hr := .inl rfl), ?_⟩
              simp (maxSteps := 4000000) only [go_sem]
              refine ⟨by kernel_rfl, hK _ ?_⟩
              clear hK K
              repeat (first | refine z25 rfl ?_ | refine z24 rfl ?_ | refine z21 ?_ | refine z16 ?_ | refine z14 ?_ | (refine z12 fun K hK => ?_; simp (maxSteps := 4000000) only [go_sem]; refine hK _ ?_; clear hK K) | refine z20 ?_ | refine z22 ?_ | refine z17 ?_ | refine z15 ?_ | refine z13 rfl ?_ | refine z19 ?_ | refine z10 ?_ | refine z23 ?_ | refine z18 ?_ | refine z11 ?_)
              simp (maxSteps := 4000000) only [go_sem]
            · rw [q, Bool.true_and] at hall
              skip
              rw [q] at hc
              repeat (first | refine z21 ?_ | refine z16 ?_ | refine z14 ?_ | (refine z12 fun K hK => ?_; simp (maxSteps := 4000000) only [go_sem]; refine hK _ ?_; clear hK K) | refine z20 ?_ | refine z22 ?_ | refine z17 ?_ | refine z15 ?_ | refine z13 rfl ?_ | refine z19 ?_ | refine z10 ?_ | refine z23 ?_ | refine z18 ?_ | refine z11 ?_)
              refine z28 (by kernel_rfl) (by kernel_rfl) fun K hK => ?_
              simp (maxSteps := 4000000) only [go_sem, g1, hni]
              refine ⟨_, .fn (hf := hc) (hd := rfl) (hr := .inl rfl), ?_⟩
              simp (maxSteps := 4000000) only [go_sem]
              refine ⟨by kernel_rfl, hK _ ?_⟩
              clear hK K
              repeat (first | refine z25 rfl ?_ | refine z24 rfl ?_ | refine z21 ?_ | refine z16 ?_ | refine z14 ?_ | (refine z12 fun K hK => ?_; simp (maxSteps := 4000000) only [go_sem, hw]; refine hK _ ?_; clear hK K) | refine z20 ?_ | refine z22 ?_ | refine z17 ?_ | refine z15 ?_ | refine z13 rfl ?_ | refine z19 ?_ | refine z10 ?_ | refine z23 ?_ | refine z18 ?_ | refine z11 ?_)
              refine ⟨rfl, i + 1, ?_, ⟨hlt, hall⟩, by omega⟩
              refine z26 [] ?_ ?_ rfl rfl <;> simp [lessT, lessM, lessB, AV.less]
          · have he : i = k.batches.length := by (have : ¬ i < k.batches.length := by simpa using hb); omega
            subst he
            rw [List.drop_length, List.all_nil] at hall
            rw [hall, Bool.not_true, Bool.false_or] at kb kg
            clear hall
            repeat (first | refine z21 ?_ | refine z16 ?_ | refine z14 ?_ | (refine z12 fun K hK => ?_; simp (maxSteps := 4000000) only [go_sem]; refine hK _ ?_; clear hK K) | refine z20 ?_ | refine z22 ?_ | refine z17 ?_ | refine z15 ?_ | refine z13 rfl ?_ | refine z19 ?_ | refine z10 ?_ | refine z23 ?_ | refine z18 ?_ | refine z11 ?_)
            refine z29 (fun (i : Nat) => [(5, .d (.i (i : Int)))]) (fun _ => []) (fun i => i ≤ k.dishes.length ∧ k.dishes.all (dishB k.allerg.length) = (k.dishes.drop i).all (dishB k.allerg.length)) (fun i => k.dishes.length - i) 0 ?_ ⟨Nat.zero_le _, rfl⟩ ?_
            · simp (maxSteps := 4000000) only [go_sem]
              refine z26 [] ?_ ?_ rfl rfl <;> simp [lessT, lessM, lessB, AV.less]
            · rintro i ⟨hi, hall⟩
              simp (maxSteps := 4000000) only [go_sem]
              repeat (first | refine z21 ?_ | refine z16 ?_ | refine z14 ?_ | (refine z12 fun K hK => ?_; simp (maxSteps := 4000000) only [go_sem]; refine hK _ ?_; clear hK K) | refine z20 ?_ | refine z22 ?_ | refine z17 ?_ | refine z15 ?_ | refine z13 rfl ?_ | refine z19 ?_ | refine z10 ?_ | refine z23 ?_ | refine z18 ?_ | refine z11 ?_)
              refine z27 rfl (fun hb => ?_) (fun hb => ?_)
              · have hlt : i < k.dishes.length := by simpa using hb
                have hw : IntKind.i64.wrap ((i : Int) + 1) = ((i + 1 : Nat) : Int) := by rw [z30 (by omega)]; simp
                obtain ⟨x, hx⟩ : ∃ x, k.dishes[i]? = some x := ⟨_, List.getElem?_eq_getElem hlt⟩
                have g1 := z136 hx
                have hni : ¬ ((i : Int) < 0) := by omega
                have hc := h93 x (a4 x (List.mem_of_getElem? hx))
                rw [Dish.row] at g1 hc
                rw [z36 hx, List.all_cons] at hall
                cases q : (dishB k.allerg.length) x
                · rw [q, Bool.false_and] at hall
                  rw [hall] at kb
                  have kb := kb rfl
                  subst kb
                  skip
                  rw [q] at hc
                  repeat (first | refine z21 ?_ | refine z16 ?_ | refine z14 ?_ | (refine z12 fun K hK => ?_; simp (maxSteps := 4000000) only [go_sem]; refine hK _ ?_; clear hK K) | refine z20 ?_ | refine z22 ?_ | refine z17 ?_ | refine z15 ?_ | refine z13 rfl ?_ | refine z19 ?_ | refine z10 ?_ | refine z23 ?_ | refine z18 ?_ | refine z11 ?_)
                  refine z28 (by kernel_rfl) (by kernel_rfl) fun K hK => ?_
                  simp (maxSteps := 4000000) only [go_sem, g1, hni]
                  refine ⟨_, .fn (hf := hc) (hd := rfl) (hr := .inl rfl), ?_⟩
                  simp (maxSteps := 4000000) only [go_sem]
                  refine ⟨by kernel_rfl, hK _ ?_⟩
                  clear hK K
                  repeat (first | refine z25 rfl ?_ | refine z24 rfl ?_ | refine z21 ?_ | refine z16 ?_ | refine z14 ?_ | (refine z12 fun K hK => ?_; simp (maxSteps := 4000000) only [go_sem]; refine hK _ ?_; clear hK K) | refine z20 ?_ | refine z22 ?_ | refine z17 ?_ | refine z15 ?_ | refine z13 rfl ?_ | refine z19 ?_ | refine z10 ?_ | refine z23 ?_ | refine z18 ?_ | refine z11 ?_)
                  simp (maxSteps := 4000000) only [go_sem]
                · rw [q, Bool.true_and] at hall
                  skip
                  rw [q] at hc
                  repeat (first | refine z21 ?_ | refine z16 ?_ | refine z14 ?_ | (refine z12 fun K hK => ?_; simp (maxSteps := 4000000) only [go_sem]; refine hK _ ?_; clear hK K) | refine z20 ?_ | refine z22 ?_ | refine z17 ?_ | refine z15 ?_ | refine z13 rfl ?_ | refine z19 ?_ | refine z10 ?_ | refine z23 ?_ | refine z18 ?_ | refine z11 ?_)
                  refine z28 (by kernel_rfl) (by kernel_rfl) fun K hK => ?_
                  simp (maxSteps := 4000000) only [go_sem, g1, hni]
                  refine ⟨_, .fn (hf := hc) (hd := rfl) (hr := .inl rfl), ?_⟩
                  simp (maxSteps := 4000000) only [go_sem]
                  refine ⟨by kernel_rfl, hK _ ?_⟩
                  clear hK K
                  repeat (first | refine z25 rfl ?_ | refine z24 rfl ?_ | refine z21 ?_ | refine z16 ?_ | refine z14 ?_ | (refine z12 fun K hK => ?_; simp (maxSteps := 4000000) only [go_sem, hw]; refine hK _ ?_; clear hK K) | refine z20 ?_ | refine z22 ?_ | refine z17 ?_ | refine z15 ?_ | refine z13 rfl ?_ | refine z19 ?_ | refine z10 ?_ | refine z23 ?_ | refine z18 ?_ | refine z11 ?_)
                  refine ⟨rfl, i + 1, ?_, ⟨hlt, hall⟩, by omega⟩
                  refine z26 [] ?_ ?_ rfl rfl <;> simp [lessT, lessM, lessB, AV.less]
              · have he : i = k.dishes.length := by (have : ¬ i < k.dishes.length := by simpa using hb); omega
                subst he
                rw [List.drop_length, List.all_nil] at hall
                rw [hall, Bool.not_true, Bool.false_or] at kb kg
                clear hall
                repeat (first | refine z21 ?_ | refine z16 ?_ | refine z14 ?_ | (refine z12 fun K hK => ?_; simp (maxSteps := 4000000) only [go_sem]; refine hK _ ?_; clear hK K) | refine z20 ?_ | refine z22 ?_ | refine z17 ?_ | refine z15 ?_ | refine z13 rfl ?_ | refine z19 ?_ | refine z10 ?_ | refine z23 ?_ | refine z18 ?_ | refine z11 ?_)
                refine z29 (fun (i : Nat) => [(6, .d (.i (i : Int))), (7, .undef), (8, .undef)]) (fun _ => []) (fun i => i ≤ k.days.length ∧ k.days.all dayB = (k.days.drop i).all dayB) (fun i => k.days.length - i) 0 ?_ ⟨Nat.zero_le _, rfl⟩ ?_
                · simp (maxSteps := 4000000) only [go_sem]
                  refine z26 [] ?_ ?_ rfl rfl <;> simp [lessT, lessM, lessB, AV.less]
                · rintro i ⟨hi, hall⟩
                  simp (maxSteps := 4000000) only [go_sem]
                  repeat (first | refine z21 ?_ | refine z16 ?_ | refine z14 ?_ | (refine z12 fun K hK => ?_; simp (maxSteps := 4000000) only [go_sem]; refine hK _ ?_; clear hK K) | refine z20 ?_ | refine z22 ?_ | refine z17 ?_ | refine z15 ?_ | refine z13 rfl ?_ | refine z19 ?_ | refine z10 ?_ | refine z23 ?_ | refine z18 ?_ | refine z11 ?_)
                  refine z27 rfl (fun hb => ?_) (fun hb => ?_)
                  · have hlt : i < k.days.length := by simpa using hb
                    have hw : IntKind.i64.wrap ((i : Int) + 1) = ((i + 1 : Nat) : Int) := by rw [z30 (by omega)]; simp
                    obtain ⟨x, hx⟩ : ∃ x, k.days[i]? = some x := ⟨_, List.getElem?_eq_getElem hlt⟩
                    have g1 := z72 hx
                    have hni : ¬ ((i : Int) < 0) := by omega
                    have hxl := a6 x (List.mem_of_getElem? hx)
                    rw [z36 hx, List.all_cons, dayB] at hall
                    cases q : decide ((x.length : Int) > 3)
                    · have q2 : decide ((x.length : Int) ≤ 3) = true := by simp at q ⊢; omega
                      rw [q2, Bool.true_and] at hall
                      have hx3 : x.length ≤ 3 := by simp at q2; omega
                      repeat (first | refine z25 rfl ?_ | refine z24 rfl ?_ | refine z21 ?_ | refine z16 ?_ | refine z14 ?_ | (refine z12 fun K hK => ?_; simp (maxSteps := 4000000) only [go_sem, g1, hni, q]; refine hK _ ?_; clear hK K) | refine z20 ?_ | refine z22 ?_ | refine z17 ?_ | refine z15 ?_ | refine z13 rfl ?_ | refine z19 ?_ | refine z10 ?_ | refine z23 ?_ | refine z18 ?_ | refine z11 ?_)
                      refine z29 (fun (j : Nat) => [(7, .d (.i (j : Int))), (8, .undef)]) (fun _ => []) (fun j => j ≤ x.length ∧ k.days.all dayB = ((x.drop j).all groupB && (k.days.drop (i + 1)).all dayB)) (fun j => x.length - j) 0 ?_ ⟨Nat.zero_le _, hall⟩ ?_
                      · simp (maxSteps := 4000000) only [go_sem]
                        refine z26 [] ?_ ?_ rfl rfl <;> simp [lessT, lessM, lessB, AV.less]
                      · rintro j ⟨hj, hallj⟩
                        simp (maxSteps := 4000000) only [go_sem]
                        repeat (first | refine z21 ?_ | refine z16 ?_ | refine z14 ?_ | (refine z12 fun K hK => ?_; simp (maxSteps := 4000000) only [go_sem, g1, hni]; refine hK _ ?_; clear hK K) | refine z20 ?_ | refine z22 ?_ | refine z17 ?_ | refine z15 ?_ | refine z13 rfl ?_ | refine z19 ?_ | refine z10 ?_ | refine z23 ?_ | refine z18 ?_ | refine z11 ?_)
                        refine z27 rfl (fun hb => ?_) (fun hb => ?_)
                        · have hltj : j < x.length := by simpa using hb
                          have hwj : IntKind.i64.wrap ((j : Int) + 1) = ((j + 1 : Nat) : Int) := by rw [z30 (by omega)]; simp
                          obtain ⟨y, hy⟩ : ∃ y, x[j]? = some y := ⟨_, List.getElem?_eq_getElem hltj⟩
                          have g3 := z88 hy
                          rw [Diners.row] at g3
                          have hnj : ¬ ((j : Int) < 0) := by omega
                          have c1 := zf51 y.no 0 255
                          have c2 := zf51 y.count.lo 0 y.count.hi
                          rw [z36 hy, List.all_cons, groupB_eq] at hallj
                          repeat (first | refine z21 ?_ | refine z16 ?_ | refine z14 ?_ | (refine z12 fun K hK => ?_; simp (maxSteps := 4000000) only [go_sem, g1, hni, g3, hnj]; refine hK _ ?_; clear hK K) | refine z20 ?_ | refine z22 ?_ | refine z17 ?_ | refine z15 ?_ | refine z13 rfl ?_ | refine z19 ?_ | refine z10 ?_ | refine z23 ?_ | refine z18 ?_ | refine z11 ?_)
                          refine z127 [(129, .d (.bool (badG y)))] [] ?_ ?_
                          · refine z12 fun K hK => ?_
                            simp (maxSteps := 4000000) only [go_sem]
                            refine ⟨_, .lent (hf := c1) (hd := rfl) (hr := rfl), ?_⟩
                            simp (maxSteps := 4000000) only [go_sem]
                            by_cases ho0 : (!withinB y.no 0 255) = true
                            · simp (maxSteps := 4000000) only [go_sem, ho0]
                              refine hK _ ?_
                              clear hK K
                              refine z20 ?_
                              refine z11 ?_
                              refine ⟨rfl, ?_⟩
                              rw [show (badG y) = (true) from by simp [badG, ho0]]
                              simp (maxSteps := 4000000) only [go_sem]
                              refine z26 [] ?_ ?_ rfl rfl <;> simp [lessT, lessM, lessB, AV.less]
                            · simp (maxSteps := 4000000) only [go_sem, ho0]
                              refine ⟨_, .lent (hf := c2) (hd := rfl) (hr := rfl), ?_⟩
                              simp (maxSteps := 4000000) only [go_sem, ho0]
                              by_cases ho1 : (!withinB y.count.lo 0 y.count.hi) = true
                              · simp (maxSteps := 4000000) only [go_sem, ho0, ho1]
                                refine hK _ ?_
                                clear hK K
                                refine z20 ?_
                                refine z11 ?_
                                refine ⟨rfl, ?_⟩
                                rw [show (badG y) = (true) from by simp [badG, ho0, ho1]]
                                simp (maxSteps := 4000000) only [go_sem]
                                refine z26 [] ?_ ?_ rfl rfl <;> simp [lessT, lessM, lessB, AV.less]
                              · simp (maxSteps := 4000000) only [go_sem, ho0, ho1]
                                refine hK _ ?_
                                clear hK K
                                refine z20 ?_
                                refine z11 ?_
                                refine ⟨rfl, ?_⟩
                                rw [show (badG y) = (decide (y.count.hi > 100)) from by simp [badG, ho0, ho1]]
                                simp (maxSteps := 4000000) only [go_sem]
                                refine z26 [] ?_ ?_ rfl rfl <;> simp [lessT, lessM, lessB, AV.less]
                          simp (maxSteps := 4000000) only [go_sem]
                          repeat (first | refine z21 ?_ | refine z16 ?_ | refine z14 ?_ | (refine z12 fun K hK => ?_; simp (maxSteps := 4000000) only [go_sem]; refine hK _ ?_; clear hK K) | refine z20 ?_ | refine z22 ?_ | refine z17 ?_ | refine z15 ?_ | refine z13 rfl ?_ | refine z19 ?_ | refine z10 ?_ | refine z23 ?_ | refine z18 ?_ | refine z11 ?_)
                          refine z27 rfl (fun hc => ?_) (fun hc => ?_)
                          · rw [hc, Bool.not_true, Bool.false_and, Bool.false_and] at hallj
                            rw [hallj] at kb
                            have kb := kb rfl
                            subst kb
                            rw [hc]
                            repeat (first | refine z21 ?_ | refine z16 ?_ | refine z14 ?_ | (refine z12 fun K hK => ?_; simp (maxSteps := 4000000) only [go_sem]; refine hK _ ?_; clear hK K) | refine z20 ?_ | refine z22 ?_ | refine z17 ?_ | refine z15 ?_ | refine z13 rfl ?_ | refine z19 ?_ | refine z10 ?_ | refine z23 ?_ | refine z18 ?_ | refine z11 ?_)
                            simp (maxSteps := 4000000) only [go_sem, if_true]
                          · rw [hc, Bool.not_false, Bool.true_and] at hallj
                            rw [hc]
                            repeat (first | refine z21 ?_ | refine z16 ?_ | refine z14 ?_ | (refine z12 fun K hK => ?_; simp (maxSteps := 4000000) only [go_sem, hwj]; refine hK _ ?_; clear hK K) | refine z20 ?_ | refine z22 ?_ | refine z17 ?_ | refine z15 ?_ | refine z13 rfl ?_ | refine z19 ?_ | refine z10 ?_ | refine z23 ?_ | refine z18 ?_ | refine z11 ?_)
                            refine ⟨rfl, j + 1, ?_, ⟨hltj, hallj⟩, by omega⟩
                            refine z26 [] ?_ ?_ rfl rfl <;> simp [lessT, lessM, lessB, AV.less]
                        · have he : j = x.length := by (have : ¬ j < x.length := by simpa using hb); omega
                          subst he
                          rw [List.drop_length, List.all_nil, Bool.true_and] at hallj
                          repeat (first | refine z21 ?_ | refine z16 ?_ | refine z14 ?_ | (refine z12 fun K hK => ?_; simp (maxSteps := 4000000) only [go_sem, hw]; refine hK _ ?_; clear hK K) | refine z20 ?_ | refine z22 ?_ | refine z17 ?_ | refine z15 ?_ | refine z13 rfl ?_ | refine z19 ?_ | refine z10 ?_ | refine z23 ?_ | refine z18 ?_ | refine z11 ?_)
                          refine ⟨rfl, i + 1, ?_, ⟨hlt, hallj⟩, by omega⟩
                          refine z26 [] ?_ ?_ rfl rfl <;> simp [lessT, lessM, lessB, AV.less]
                    · have q2 : decide ((x.length : Int) ≤ 3) = false := by simp at q ⊢; omega
                      rw [q2, Bool.false_and, Bool.false_and] at hall
                      rw [hall] at kb
                      have kb := kb rfl
                      subst kb
                      repeat (first | refine z25 rfl ?_ | refine z24 rfl ?_ | refine z21 ?_ | refine z16 ?_ | refine z14 ?_ | (refine z12 fun K hK => ?_; simp (maxSteps := 4000000) only [go_sem, g1, hni, q]; refine hK _ ?_; clear hK K) | refine z20 ?_ | refine z22 ?_ | refine z17 ?_ | refine z15 ?_ | refine z13 rfl ?_ | refine z19 ?_ | refine z10 ?_ | refine z23 ?_ | refine z18 ?_ | refine z11 ?_)
                      simp (maxSteps := 4000000) only [go_sem]
                  · have he : i = k.days.length := by (have : ¬ i < k.days.length := by simpa using hb); omega
                    subst he
                    rw [List.drop_length, List.all_nil] at hall
                    rw [hall] at kg
                    have kg := kg rfl
                    subst kg
                    repeat (first | refine z21 ?_ | refine z16 ?_ | refine z14 ?_ | (refine z12 fun K hK => ?_; simp (maxSteps := 4000000) only [go_sem]; refine hK _ ?_; clear hK K) | refine z20 ?_ | refine z22 ?_ | refine z17 ?_ | refine z15 ?_ | refine z13 rfl ?_ | refine z19 ?_ | refine z10 ?_ | refine z23 ?_ | refine z18 ?_ | refine z11 ?_)
                    simp (maxSteps := 4000000) only [go_sem]
end Go.Ab
namespace Go.Ab
open Go.RowKit Go.Proofs
set_option maxHeartbeats 8000000
set_option maxRecDepth 20000
attribute [local irreducible] WalkL Walk
theorem zf34 (k : Kitchen) (hg : KitGood k) (n : Nat) (no : Int) (hn : n < k.dishes.length) : Fn Try.prog 34 [.agg k.cells, .i (n : Int), .i no] (.bool (suitsB k (n : Int) no)) := by
  have gd := dish_at hn
  have hl := z256 hg hn
  have hgo := hg.goods
  have hnn : ¬ ((n : Int) < 0) := by omega
  unfold suitsB
  obtain ⟨N, hN⟩ : ∃ N, N = (dishAt k (n : Int)).needs := ⟨_, rfl⟩
  rw [← hN] at gd hl ⊢
  refine z31 35 Try.call34 Try.func34 rfl (by decide) fun J => ?_
  simp (maxSteps := 4000000) only [go_sem, St.start, Try.ntmps34, Try.results34, Kitchen.cells]
  repeat (first | refine z21 ?_ | refine z16 ?_ | refine z14 ?_ | (refine z12 fun K hK => ?_; simp (maxSteps := 4000000) only [go_sem]; refine hK _ ?_; clear hK K) | refine z20 ?_ | refine z22 ?_ | refine z17 ?_ | refine z15 ?_ | refine z13 rfl ?_ | refine z19 ?_ | refine z10 ?_ | refine z23 ?_ | refine z18 ?_ | refine z11 ?_)
  refine z29 (fun (i : Nat) => [(7, .d (.i (i : Int)))]) (fun _ => []) (fun i => i ≤ k.allerg.length ∧ suitTo k.allerg N no i = true) (fun i => k.allerg.length - i) 0 ?_ ⟨Nat.zero_le _, rfl⟩ ?_
  · simp (maxSteps := 4000000) only [go_sem]
    refine z26 [] ?_ ?_ rfl rfl <;> simp [lessT, lessM, lessB, AV.less]
  · rintro i ⟨hi, hs⟩
    simp (maxSteps := 4000000) only [go_sem]
    repeat (first | refine z21 ?_ | refine z16 ?_ | refine z14 ?_ | (refine z12 fun K hK => ?_; simp (maxSteps := 4000000) only [go_sem]; refine hK _ ?_; clear hK K) | refine z20 ?_ | refine z22 ?_ | refine z17 ?_ | refine z15 ?_ | refine z13 rfl ?_ | refine z19 ?_ | refine z10 ?_ | refine z23 ?_ | refine z18 ?_ | refine z11 ?_)
    refine z27 rfl (fun hb => ?_) (fun hb => ?_)
    · have hlt : i < k.allerg.length := by simpa using hb
      have hw : IntKind.i64.wrap ((i : Int) + 1) = ((i + 1 : Nat) : Int) := by rw [z30 (by omega)]; simp
      have g1 := z34 (l := N) (i := i) (by omega)
      have g2 := z34 (l := k.allerg) (i := i) (by omega)
      have hni : ¬ ((i : Int) < 0) := by omega
      cases q1 : decide (getI N (i : Int) > 0)
      · have hbg : badGood k.allerg N no i = false := by rw [badGood, q1]; rfl
        repeat (first | refine z25 rfl ?_ | refine z24 rfl ?_ | refine z21 ?_ | refine z16 ?_ | refine z14 ?_ | (refine z12 fun K hK => ?_; simp (maxSteps := 4000000) only [go_sem, gd, hnn, g1, q1, hni, hw]; refine hK _ ?_; clear hK K) | refine z20 ?_ | refine z22 ?_ | refine z17 ?_ | refine z15 ?_ | refine z13 rfl ?_ | refine z19 ?_ | refine z10 ?_ | refine z23 ?_ | refine z18 ?_ | refine z11 ?_)
        refine ⟨rfl, i + 1, ?_, ⟨hlt, by rw [suitTo, hs, hbg]; rfl⟩, by omega⟩
        refine z26 [] ?_ ?_ rfl rfl <;> simp [lessT, lessM, lessB, AV.less]
      · cases q2 : (bAnd .i64 (getI k.allerg (i : Int)) no != 0)
        · have hbg : badGood k.allerg N no i = false := by rw [badGood, q2, Bool.and_false]
          repeat (first | refine z25 rfl ?_ | refine z24 rfl ?_ | refine z21 ?_ | refine z16 ?_ | refine z14 ?_ | (refine z12 fun K hK => ?_; simp (maxSteps := 4000000) only [go_sem, gd, hnn, g1, g2, q1, q2, hni, hw]; refine hK _ ?_; clear hK K) | refine z20 ?_ | refine z22 ?_ | refine z17 ?_ | refine z15 ?_ | refine z13 rfl ?_ | refine z19 ?_ | refine z10 ?_ | refine z23 ?_ | refine z18 ?_ | refine z11 ?_)
          refine ⟨rfl, i + 1, ?_, ⟨hlt, by rw [suitTo, hs, hbg]; rfl⟩, by omega⟩
          refine z26 [] ?_ ?_ rfl rfl <;> simp [lessT, lessM, lessB, AV.less]
        · have hbg : badGood k.allerg N no i = true := by rw [badGood, q1, q2]; rfl
          rw [z264 hbg (m := N.length) (by omega)]
          repeat (first | refine z25 rfl ?_ | refine z24 rfl ?_ | refine z21 ?_ | refine z16 ?_ | refine z14 ?_ | (refine z12 fun K hK => ?_; simp (maxSteps := 4000000) only [go_sem, gd, hnn, g1, g2, q1, q2, hni]; refine hK _ ?_; clear hK K) | refine z20 ?_ | refine z22 ?_ | refine z17 ?_ | refine z15 ?_ | refine z13 rfl ?_ | refine z19 ?_ | refine z10 ?_ | refine z23 ?_ | refine z18 ?_ | refine z11 ?_)
          simp (maxSteps := 4000000) only [go_sem]
    · have he : i = k.allerg.length := by (have : ¬ i < k.allerg.length := by simpa using hb); omega
      subst he
      rw [hl, hs]
      repeat (first | refine z21 ?_ | refine z16 ?_ | refine z14 ?_ | (refine z12 fun K hK => ?_; simp (maxSteps := 4000000) only [go_sem]; refine hK _ ?_; clear hK K) | refine z20 ?_ | refine z22 ?_ | refine z17 ?_ | refine z15 ?_ | refine z13 rfl ?_ | refine z19 ?_ | refine z10 ?_ | refine z23 ?_ | refine z18 ?_ | refine z11 ?_)
      simp (maxSteps := 4000000) only [go_sem]
theorem zf23 (k : Kitchen) (hg : KitGood k) (M : List (List Int)) (hM : M.length < 2 ^ 30) (hMr : ∀ r ∈ M, r.length < 2 ^ 30) : Fn Try.prog 23 [.agg k.cells, .sl (listRows M)] (.bool (shapedB (menuB k) M k.days)) := by
  obtain ⟨q, hqd⟩ : ∃ q, q = menuB k := ⟨_, rfl⟩
  have hq : ∀ (n : Int) (g : Diners), q n g = (withinB n 0 ((k.dishes.length : Int) - 1) && suitsB k n g.no) := fun n g => by rw [hqd]; rfl
  rw [← hqd]
  have hgr := hg.groups
  have hdl := hg.dishes
  have w : IntKind.i64.wrap ((k.dishes.length : Int) - 1) = (k.dishes.length : Int) - 1 := z30 (by omega)
  obtain ⟨R, hR⟩ : ∃ R, R = shapedB q M k.days := ⟨_, rfl⟩
  rw [← hR]
  cases q1 : ((M.length : Int) != (k.days.length : Int))
  · have hl : M.length = k.days.length := by
      simp only [bne_eq_false_iff_eq] at q1
      omega
    refine z31 74 Try.call23 Try.func23 rfl (by decide) fun J => ?_
    simp (maxSteps := 4000000) only [go_sem, St.start, Try.ntmps23, Try.results23, Kitchen.cells]
    repeat (first | refine z25 rfl ?_ | refine z24 rfl ?_ | refine z21 ?_ | refine z16 ?_ | refine z14 ?_ | (refine z12 fun K hK => ?_; simp (maxSteps := 4000000) only [go_sem, q1, z37]; refine hK _ ?_; clear hK K) | refine z20 ?_ | refine z22 ?_ | refine z17 ?_ | refine z15 ?_ | refine z13 rfl ?_ | refine z19 ?_ | refine z10 ?_ | refine z23 ?_ | refine z18 ?_ | refine z11 ?_)
    refine z29 (fun (i : Nat) => [(5, .d (.i (i : Int))), (6, .undef)]) (fun _ => []) (fun i => i ≤ M.length ∧ R = shapedB q (M.drop i) (k.days.drop i)) (fun i => M.length - i) 0 ?_ ⟨Nat.zero_le _, hR⟩ ?_
    · simp (maxSteps := 4000000) only [go_sem]
      refine z26 [] ?_ ?_ rfl rfl <;> simp [lessT, lessM, lessB, AV.less]
    · rintro i ⟨hi, hRi⟩
      simp (maxSteps := 4000000) only [go_sem]
      repeat (first | refine z21 ?_ | refine z16 ?_ | refine z14 ?_ | (refine z12 fun K hK => ?_; simp (maxSteps := 4000000) only [go_sem, z37]; refine hK _ ?_; clear hK K) | refine z20 ?_ | refine z22 ?_ | refine z17 ?_ | refine z15 ?_ | refine z13 rfl ?_ | refine z19 ?_ | refine z10 ?_ | refine z23 ?_ | refine z18 ?_ | refine z11 ?_)
      refine z27 rfl (fun hb => ?_) (fun hb => ?_)
      · have hlt : i < M.length := by simpa using hb
        have hw : IntKind.i64.wrap ((i : Int) + 1) = ((i + 1 : Nat) : Int) := by rw [z30 (by omega)]; simp
        obtain ⟨d, hd⟩ : ∃ d, k.days[i]? = some d := ⟨_, List.getElem?_eq_getElem (by omega)⟩
        obtain ⟨r, hr⟩ : ∃ r, M[i]? = some r := ⟨_, List.getElem?_eq_getElem (by omega)⟩
        have g1 := z72 hd
        have g2 := z48 hr
        have hni : ¬ ((i : Int) < 0) := by omega
        have hd3 := (hgr d (List.mem_of_getElem? hd)).1
        rw [z36 hd, z36 hr, shapedB] at hRi
        cases q2 : ((r.length : Int) != (d.length : Int))
        · have hrl : r.length = d.length := by
            simp only [bne_eq_false_iff_eq] at q2
            omega
          repeat (first | refine z21 ?_ | refine z16 ?_ | refine z14 ?_ | (refine z12 fun K hK => ?_; simp (maxSteps := 4000000) only [go_sem]; refine hK _ ?_; clear hK K) | refine z20 ?_ | refine z22 ?_ | refine z17 ?_ | refine z15 ?_ | refine z13 rfl ?_ | refine z19 ?_ | refine z10 ?_ | refine z23 ?_ | refine z18 ?_ | refine z11 ?_)
          refine z28 (by kernel_rfl) (by kernel_rfl) fun K hK => ?_
          simp (maxSteps := 4000000) only [go_sem, g1, g2, hni, q2]
          refine ⟨by kernel_rfl, hK _ ?_⟩
          clear hK K
          repeat (first | refine z25 rfl ?_ | refine z24 rfl ?_ | refine z21 ?_ | refine z16 ?_ | refine z14 ?_ | (refine z12 fun K hK => ?_; simp (maxSteps := 4000000) only [go_sem]; refine hK _ ?_; clear hK K) | refine z20 ?_ | refine z22 ?_ | refine z17 ?_ | refine z15 ?_ | refine z13 rfl ?_ | refine z19 ?_ | refine z10 ?_ | refine z23 ?_ | refine z18 ?_ | refine z11 ?_)
          refine z29 (fun (j : Nat) => [(6, .d (.i (j : Int)))]) (fun _ => []) (fun j => j ≤ r.length ∧ R = (rowOk q (r.drop j) (d.drop j) && shapedB q (M.drop (i + 1)) (k.days.drop (i + 1)))) (fun j => r.length - j) 0 ?_ ⟨Nat.zero_le _, hRi⟩ ?_
          · simp (maxSteps := 4000000) only [go_sem]
            refine z26 [] ?_ ?_ rfl rfl <;> simp [lessT, lessM, lessB, AV.less]
          · rintro j ⟨hj, hRj⟩
            simp (maxSteps := 4000000) only [go_sem]
            repeat (first | refine z21 ?_ | refine z16 ?_ | refine z14 ?_ | (refine z12 fun K hK => ?_; simp (maxSteps := 4000000) only [go_sem, g2, hni]; refine hK _ ?_; clear hK K) | refine z20 ?_ | refine z22 ?_ | refine z17 ?_ | refine z15 ?_ | refine z13 rfl ?_ | refine z19 ?_ | refine z10 ?_ | refine z23 ?_ | refine z18 ?_ | refine z11 ?_)
            refine z27 rfl (fun hb => ?_) (fun hb => ?_)
            · have hltj : j < r.length := by simpa using hb
              have hwj : IntKind.i64.wrap ((j : Int) + 1) = ((j + 1 : Nat) : Int) := by rw [z30 (by omega)]; simp
              obtain ⟨g, hgj⟩ : ∃ g, d[j]? = some g := ⟨_, List.getElem?_eq_getElem (by omega)⟩
              obtain ⟨n, hnj⟩ : ∃ n, r[j]? = some n := ⟨_, List.getElem?_eq_getElem (by omega)⟩
              have g3 := z88 hgj
              have g4 := z46 hnj
              rw [Diners.row] at g3
              have hnjj : ¬ ((j : Int) < 0) := by omega
              have c1 := zf51 n 0 ((k.dishes.length : Int) - 1)
              rw [z36 hgj, z36 hnj, rowOk, hq] at hRj
              cases q3 : withinB n 0 ((k.dishes.length : Int) - 1)
              · rw [q3] at hRj c1
                rw [Bool.false_and, Bool.false_and, Bool.false_and] at hRj
                rw [hRj]
                repeat (first | refine z21 ?_ | refine z16 ?_ | refine z14 ?_ | (refine z12 fun K hK => ?_; simp (maxSteps := 4000000) only [go_sem]; refine hK _ ?_; clear hK K) | refine z20 ?_ | refine z22 ?_ | refine z17 ?_ | refine z15 ?_ | refine z13 rfl ?_ | refine z19 ?_ | refine z10 ?_ | refine z23 ?_ | refine z18 ?_ | refine z11 ?_)
                refine z28 (by kernel_rfl) (by kernel_rfl) fun K hK => ?_
                simp (maxSteps := 4000000) only [go_sem, g1, g2, g3, g4, hni, hnjj, w]
                refine ⟨_, .fn (hf := c1) (hd := rfl) (hr := .inl rfl), ?_⟩
                simp (maxSteps := 4000000) only [go_sem]
                refine ⟨by kernel_rfl, hK _ ?_⟩
                clear hK K
                repeat (first | refine z25 rfl ?_ | refine z24 rfl ?_ | refine z21 ?_ | refine z16 ?_ | refine z14 ?_ | (refine z12 fun K hK => ?_; simp (maxSteps := 4000000) only [go_sem]; refine hK _ ?_; clear hK K) | refine z20 ?_ | refine z22 ?_ | refine z17 ?_ | refine z15 ?_ | refine z13 rfl ?_ | refine z19 ?_ | refine z10 ?_ | refine z23 ?_ | refine z18 ?_ | refine z11 ?_)
                simp (maxSteps := 4000000) only [go_sem]
              · rw [q3] at hRj c1
                rw [Bool.true_and] at hRj
                have hw3 := z51.1 q3
                obtain ⟨m, rfl⟩ : ∃ m : Nat, n = (m : Int) := ⟨n.toNat, by omega⟩
                have c2 := zf34 k hg m g.no (by omega)
                cases q4 : suitsB k (m : Int) g.no
                · rw [q4] at hRj c2
                  rw [Bool.false_and, Bool.false_and] at hRj
                  rw [hRj]
                  rw [Kitchen.cells] at c2
                  repeat (first | refine z21 ?_ | refine z16 ?_ | refine z14 ?_ | (refine z12 fun K hK => ?_; simp (maxSteps := 4000000) only [go_sem]; refine hK _ ?_; clear hK K) | refine z20 ?_ | refine z22 ?_ | refine z17 ?_ | refine z15 ?_ | refine z13 rfl ?_ | refine z19 ?_ | refine z10 ?_ | refine z23 ?_ | refine z18 ?_ | refine z11 ?_)
                  refine z28 (by kernel_rfl) (by kernel_rfl) fun K hK => ?_
                  simp (maxSteps := 4000000) only [go_sem, g1, g2, g3, g4, hni, hnjj, w]
                  refine ⟨_, .fn (hf := c1) (hd := rfl) (hr := .inl rfl), ?_⟩
                  simp (maxSteps := 4000000) only [go_sem, g1, g2, g3, g4, hni, hnjj]
                  refine ⟨_, .fn (hf := c2) (hd := rfl) (hr := .inl rfl), ?_⟩
                  simp (maxSteps := 4000000) only [go_sem]
                  refine ⟨by kernel_rfl, hK _ ?_⟩
                  clear hK K
                  repeat (first | refine z25 rfl ?_ | refine z24 rfl ?_ | refine z21 ?_ | refine z16 ?_ | refine z14 ?_ | (refine z12 fun K hK => ?_; simp (maxSteps := 4000000) only [go_sem]; refine hK _ ?_; clear hK K) | refine z20 ?_ | refine z22 ?_ | refine z17 ?_ | refine z15 ?_ | refine z13 rfl ?_ | refine z19 ?_ | refine z10 ?_ | refine z23 ?_ | refine z18 ?_ | refine z11 ?_)
                  simp (maxSteps := 4000000) only [go_sem]
                · rw [q4] at hRj c2
                  rw [Bool.true_and] at hRj
                  rw [Kitchen.cells] at c2
                  repeat (first | refine z21 ?_ | refine z16 ?_ | refine z14 ?_ | (refine z12 fun K hK => ?_; simp (maxSteps := 4000000) only [go_sem]; refine hK _ ?_; clear hK K) | refine z20 ?_ | refine z22 ?_ | refine z17 ?_ | refine z15 ?_ | refine z13 rfl ?_ | refine z19 ?_ | refine z10 ?_ | refine z23 ?_ | refine z18 ?_ | refine z11 ?_)
                  refine z28 (by kernel_rfl) (by kernel_rfl) fun K hK => ?_
                  simp (maxSteps := 4000000) only [go_sem, g1, g2, g3, g4, hni, hnjj, w]
                  refine ⟨_, .fn (hf := c1) (hd := rfl) (hr := .inl rfl), ?_⟩
                  simp (maxSteps := 4000000) only [go_sem, g1, g2, g3, g4, hni, hnjj]
                  refine ⟨_, .fn (hf := c2) (hd := rfl) (hr := .inl rfl), ?_⟩
                  simp (maxSteps := 4000000) only [go_sem]
                  refine ⟨by kernel_rfl, hK _ ?_⟩
                  clear hK K
                  repeat (first | refine z25 rfl ?_ | refine z24 rfl ?_ | refine z21 ?_ | refine z16 ?_ | refine z14 ?_ | (refine z12 fun K hK => ?_; simp (maxSteps := 4000000) only [go_sem, hwj]; refine hK _ ?_; clear hK K) | refine z20 ?_ | refine z22 ?_ | refine z17 ?_ | refine z15 ?_ | refine z13 rfl ?_ | refine z19 ?_ | refine z10 ?_ | refine z23 ?_ | refine z18 ?_ | refine z11 ?_)
                  refine ⟨rfl, j + 1, ?_, ⟨hltj, hRj⟩, by omega⟩
                  refine z26 [] ?_ ?_ rfl rfl <;> simp [lessT, lessM, lessB, AV.less]
            · have he : j = r.length := by (have : ¬ j < r.length := by simpa using hb); omega
              subst he
              rw [List.drop_length, hrl, List.drop_length, rowOk, Bool.true_and] at hRj
              repeat (first | refine z21 ?_ | refine z16 ?_ | refine z14 ?_ | (refine z12 fun K hK => ?_; simp (maxSteps := 4000000) only [go_sem, hw]; refine hK _ ?_; clear hK K) | refine z20 ?_ | refine z22 ?_ | refine z17 ?_ | refine z15 ?_ | refine z13 rfl ?_ | refine z19 ?_ | refine z10 ?_ | refine z23 ?_ | refine z18 ?_ | refine z11 ?_)
              refine ⟨rfl, i + 1, ?_, ⟨hlt, hRj⟩, by omega⟩
              refine z26 [] ?_ ?_ rfl rfl <;> simp [lessT, lessM, lessB, AV.less]
        · have hf : rowOk q r d = false := by
            cases hx : rowOk q r d with
            | false => rfl
            | true =>
              have := z73 hx
              rw [this] at q2
              simp at q2
          rw [hf, Bool.false_and] at hRi
          rw [hRi]
          repeat (first | refine z21 ?_ | refine z16 ?_ | refine z14 ?_ | (refine z12 fun K hK => ?_; simp (maxSteps := 4000000) only [go_sem]; refine hK _ ?_; clear hK K) | refine z20 ?_ | refine z22 ?_ | refine z17 ?_ | refine z15 ?_ | refine z13 rfl ?_ | refine z19 ?_ | refine z10 ?_ | refine z23 ?_ | refine z18 ?_ | refine z11 ?_)
          refine z28 (by kernel_rfl) (by kernel_rfl) fun K hK => ?_
          simp (maxSteps := 4000000) only [go_sem, g1, g2, hni, q2]
          refine ⟨by kernel_rfl, hK _ ?_⟩
          clear hK K
          repeat (first | refine z25 rfl ?_ | refine z24 rfl ?_ | refine z21 ?_ | refine z16 ?_ | refine z14 ?_ | (refine z12 fun K hK => ?_; simp (maxSteps := 4000000) only [go_sem]; refine hK _ ?_; clear hK K) | refine z20 ?_ | refine z22 ?_ | refine z17 ?_ | refine z15 ?_ | refine z13 rfl ?_ | refine z19 ?_ | refine z10 ?_ | refine z23 ?_ | refine z18 ?_ | refine z11 ?_)
          simp (maxSteps := 4000000) only [go_sem]
      · have he : i = M.length := by (have : ¬ i < M.length := by simpa using hb); omega
        subst he
        rw [List.drop_length, hl, List.drop_length, shapedB] at hRi
        rw [hRi]
        repeat (first | refine z21 ?_ | refine z16 ?_ | refine z14 ?_ | (refine z12 fun K hK => ?_; simp (maxSteps := 4000000) only [go_sem]; refine hK _ ?_; clear hK K) | refine z20 ?_ | refine z22 ?_ | refine z17 ?_ | refine z15 ?_ | refine z13 rfl ?_ | refine z19 ?_ | refine z10 ?_ | refine z23 ?_ | refine z18 ?_ | refine z11 ?_)
        simp (maxSteps := 4000000) only [go_sem]
  · have hf : R = false := by
      rw [hR]
      cases hx : shapedB q M k.days with
      | false => rfl
      | true =>
        have := z52 hx
        rw [this] at q1
        simp at q1
    rw [hf]
    refine z31 74 Try.call23 Try.func23 rfl (by decide) fun J => ?_
    simp (maxSteps := 4000000) only [go_sem, St.start, Try.ntmps23, Try.results23, Kitchen.cells]
    repeat (first | refine z25 rfl ?_ | refine z24 rfl ?_ | refine z21 ?_ | refine z16 ?_ | refine z14 ?_ | (refine z12 fun K hK => ?_; simp (maxSteps := 4000000) only [go_sem, q1, z37]; refine hK _ ?_; clear hK K) | refine z20 ?_ | refine z22 ?_ | refine z17 ?_ | refine z15 ?_ | refine z13 rfl ?_ | refine z19 ?_ | refine z10 ?_ | refine z23 ?_ | refine z18 ?_ | refine z11 ?_)
    simp (maxSteps := 4000000) only [go_sem]
end Go.Ab
namespace Go.Ab
open Go.RowKit Go.Proofs
set_option maxHeartbeats 8000000
set_option maxRecDepth 20000
attribute [local irreducible] WalkL Walk
def longB (r : List Int) : Bool := decide ((r.length : Int) > 20)
def farRows (M : List (List Int)) : Bool := M.any longB || decide ((M.length : Int) > 20)
theorem zf12 (M : List (List Int)) (hM : M.length < 2 ^ 30) : Fn Try.prog 12 [.sl (listRows M)] (.bool (farRows M)) := by
  unfold farRows
  obtain ⟨R, hR⟩ : ∃ R, R = (M.any longB || decide ((M.length : Int) > 20)) := ⟨_, rfl⟩
  rw [← hR]
  refine z31 19 Try.call12 Try.func12 rfl (by decide) fun J => ?_
  simp (maxSteps := 4000000) only [go_sem, St.start, Try.ntmps12, Try.results12]
  repeat (first | refine z21 ?_ | refine z16 ?_ | refine z14 ?_ | (refine z12 fun K hK => ?_; simp (maxSteps := 4000000) only [go_sem]; refine hK _ ?_; clear hK K) | refine z20 ?_ | refine z22 ?_ | refine z17 ?_ | refine z15 ?_ | refine z13 rfl ?_ | refine z19 ?_ | refine z10 ?_ | refine z23 ?_ | refine z18 ?_ | refine z11 ?_)
  refine z29 (fun (i : Nat) => [(3, .d (.i (i : Int)))]) (fun _ => []) (fun i => i ≤ M.length ∧ R = ((M.drop i).any longB || decide ((M.length : Int) > 20))) (fun i => M.length - i) 0 ?_ ⟨Nat.zero_le _, hR⟩ ?_
  · simp (maxSteps := 4000000) only [go_sem]
    refine z26 [] ?_ ?_ rfl rfl <;> simp [lessT, lessM, lessB, AV.less]
  · rintro i ⟨hi, hall⟩
    simp (maxSteps := 4000000) only [go_sem]
    repeat (first | refine z21 ?_ | refine z16 ?_ | refine z14 ?_ | (refine z12 fun K hK => ?_; simp (maxSteps := 4000000) only [go_sem, z37]; refine hK _ ?_; clear hK K) | refine z20 ?_ | refine z22 ?_ | refine z17 ?_ | refine z15 ?_ | refine z13 rfl ?_ | refine z19 ?_ | refine z10 ?_ | refine z23 ?_ | refine z18 ?_ | refine z11 ?_)
    refine z27 rfl (fun hb => ?_) (fun hb => ?_)
    · have hlt : i < M.length := by simpa using hb
      have hw : IntKind.i64.wrap ((i : Int) + 1) = ((i + 1 : Nat) : Int) := by rw [z30 (by omega)]; simp
      obtain ⟨r, hr⟩ : ∃ r, M[i]? = some r := ⟨_, List.getElem?_eq_getElem hlt⟩
      have g1 := z48 hr
      have hni : ¬ ((i : Int) < 0) := by omega
      rw [z36 hr, List.any_cons] at hall
      cases q : longB r
      · rw [q, Bool.false_or] at hall
        rw [longB] at q
        repeat (first | refine z25 rfl ?_ | refine z24 rfl ?_ | refine z21 ?_ | refine z16 ?_ | refine z14 ?_ | (refine z12 fun K hK => ?_; simp (maxSteps := 4000000) only [go_sem, g1, hni, q, hw]; refine hK _ ?_; clear hK K) | refine z20 ?_ | refine z22 ?_ | refine z17 ?_ | refine z15 ?_ | refine z13 rfl ?_ | refine z19 ?_ | refine z10 ?_ | refine z23 ?_ | refine z18 ?_ | refine z11 ?_)
        refine ⟨rfl, i + 1, ?_, ⟨hlt, hall⟩, by omega⟩
        refine z26 [] ?_ ?_ rfl rfl <;> simp [lessT, lessM, lessB, AV.less]
      · rw [q, Bool.true_or, Bool.true_or] at hall
        rw [longB] at q
        subst hall
        repeat (first | refine z25 rfl ?_ | refine z24 rfl ?_ | refine z21 ?_ | refine z16 ?_ | refine z14 ?_ | (refine z12 fun K hK => ?_; simp (maxSteps := 4000000) only [go_sem, g1, hni, q]; refine hK _ ?_; clear hK K) | refine z20 ?_ | refine z22 ?_ | refine z17 ?_ | refine z15 ?_ | refine z13 rfl ?_ | refine z19 ?_ | refine z10 ?_ | refine z23 ?_ | refine z18 ?_ | refine z11 ?_)
        simp (maxSteps := 4000000) only [go_sem]
    · have he : i = M.length := by (have : ¬ i < M.length := by simpa using hb); omega
      subst he
      rw [List.drop_length, List.any_nil, Bool.false_or] at hall
      subst hall
      repeat (first | refine z21 ?_ | refine z16 ?_ | refine z14 ?_ | (refine z12 fun K hK => ?_; simp (maxSteps := 4000000) only [go_sem, z37]; refine hK _ ?_; clear hK K) | refine z20 ?_ | refine z22 ?_ | refine z17 ?_ | refine z15 ?_ | refine z13 rfl ?_ | refine z19 ?_ | refine z10 ?_ | refine z23 ?_ | refine z18 ?_ | refine z11 ?_)
      simp (maxSteps := 4000000) only [go_sem]
def longD (d : List Diners) : Bool := decide ((d.length : Int) > 20)
def longN (d : Dish) : Bool := decide ((d.needs.length : Int) > 20)
def maxTo (l : List (List Diners)) : Nat → Int
  | 0 => 0
  | i + 1 => max (maxTo l i) ((l.getD i []).length : Int)
def farK1 (k : Kitchen) : Bool := decide ((k.allerg.length : Int) > 20) || (decide ((k.batches.length : Int) > 20) || (decide ((k.dishes.length : Int) > 20) || decide ((k.days.length : Int) > 20)))
def farK2 (k : Kitchen) : Bool := (kitE k == 0) && (decide ((k.dishes.length : Int) > 3) || (decide ((k.days.length : Int) > 3) || decide (maxTo k.days k.days.length > 2)))
def far7 (k : Kitchen) : Bool := farK1 k || (k.days.any longD || (k.dishes.any longN || farK2 k))
theorem zf11 (k : Kitchen) (hs : KitSmall k) : Fn Try.prog 11 [.agg k.cells] (.bool (far7 k)) := by
  have h44 := zf32 k hs
  have a1 := hs.allerg
  have a2 := hs.batches
  have a3 := hs.dishes
  have a5 := hs.days
  obtain ⟨R, hR⟩ : ∃ R, R = far7 k := ⟨_, rfl⟩
  rw [← hR]
  rw [far7] at hR
  rw [Kitchen.cells] at h44
  refine z31 84 Try.call11 Try.func11 rfl (by decide) fun J => ?_
  simp (maxSteps := 4000000) only [go_sem, St.start, Try.ntmps11, Try.results11, Kitchen.cells]
  repeat (first | refine z21 ?_ | refine z16 ?_ | refine z14 ?_ | (refine z12 fun K hK => ?_; simp (maxSteps := 4000000) only [go_sem]; refine hK _ ?_; clear hK K) | refine z20 ?_ | refine z22 ?_ | refine z17 ?_ | refine z15 ?_ | refine z13 rfl ?_ | refine z19 ?_ | refine z10 ?_ | refine z23 ?_ | refine z18 ?_ | refine z11 ?_)
  refine z127 [(27, .d (.bool (farK1 k)))] [] ?_ ?_
  · refine z12 fun K hK => ?_
    simp (maxSteps := 4000000) only [go_sem]
    by_cases ho0 : (decide ((k.allerg.length : Int) > 20)) = true
    · simp (maxSteps := 4000000) only [go_sem, ho0]
      refine hK _ ?_
      clear hK K
      refine z20 ?_
      refine z11 ?_
      refine ⟨rfl, ?_⟩
      rw [show (farK1 k) = (true) from by simp [farK1, ho0]]
      simp (maxSteps := 4000000) only [go_sem]
      refine z26 [] ?_ ?_ rfl rfl <;> simp [lessT, lessM, lessB, AV.less]
    · simp (maxSteps := 4000000) only [go_sem, ho0]
      by_cases ho1 : (decide ((k.batches.length : Int) > 20)) = true
      · simp (maxSteps := 4000000) only [go_sem, ho0, ho1]
        refine hK _ ?_
        clear hK K
        refine z20 ?_
        refine z11 ?_
        refine ⟨rfl, ?_⟩
        rw [show (farK1 k) = (true) from by simp [farK1, ho0, ho1]]
        simp (maxSteps := 4000000) only [go_sem]
        refine z26 [] ?_ ?_ rfl rfl <;> simp [lessT, lessM, lessB, AV.less]
      · simp (maxSteps := 4000000) only [go_sem, ho0, ho1]
        by_cases ho2 : (decide ((k.dishes.length : Int) > 20)) = true
        · simp (maxSteps := 4000000) only [go_sem, ho0, ho1, ho2]
          refine hK _ ?_
          clear hK K
          refine z20 ?_
          refine z11 ?_
          refine ⟨rfl, ?_⟩
          rw [show (farK1 k) = (true) from by simp [farK1, ho0, ho1, ho2]]
          simp (maxSteps := 4000000) only [go_sem]
          refine z26 [] ?_ ?_ rfl rfl <;> simp [lessT, lessM, lessB, AV.less]
        · simp (maxSteps := 4000000) only [go_sem, ho0, ho1, ho2]
          refine hK _ ?_
          clear hK K
          refine z20 ?_
          refine z11 ?_
          refine ⟨rfl, ?_⟩
          rw [show (farK1 k) = (decide ((k.days.length : Int) > 20)) from by simp [farK1, ho0, ho1, ho2]]
          simp (maxSteps := 4000000) only [go_sem]
          refine z26 [] ?_ ?_ rfl rfl <;> simp [lessT, lessM, lessB, AV.less]
  simp (maxSteps := 4000000) only [go_sem]
  repeat (first | refine z21 ?_ | refine z16 ?_ | refine z14 ?_ | (refine z12 fun K hK => ?_; simp (maxSteps := 4000000) only [go_sem]; refine hK _ ?_; clear hK K) | refine z20 ?_ | refine z22 ?_ | refine z17 ?_ | refine z15 ?_ | refine z13 rfl ?_ | refine z19 ?_ | refine z10 ?_ | refine z23 ?_ | refine z18 ?_ | refine z11 ?_)
  refine z27 rfl (fun hc => ?_) (fun hc => ?_)
  · rw [hc, Bool.true_or] at hR
    subst hR
    rw [hc]
    repeat (first | refine z21 ?_ | refine z16 ?_ | refine z14 ?_ | (refine z12 fun K hK => ?_; simp (maxSteps := 4000000) only [go_sem]; refine hK _ ?_; clear hK K) | refine z20 ?_ | refine z22 ?_ | refine z17 ?_ | refine z15 ?_ | refine z13 rfl ?_ | refine z19 ?_ | refine z10 ?_ | refine z23 ?_ | refine z18 ?_ | refine z11 ?_)
    simp (maxSteps := 4000000) only [go_sem, if_true]
  · rw [hc, Bool.false_or] at hR
    rw [hc]
    repeat (first | refine z21 ?_ | refine z16 ?_ | refine z14 ?_ | (refine z12 fun K hK => ?_; simp (maxSteps := 4000000) only [go_sem]; refine hK _ ?_; clear hK K) | refine z20 ?_ | refine z22 ?_ | refine z17 ?_ | refine z15 ?_ | refine z13 rfl ?_ | refine z19 ?_ | refine z10 ?_ | refine z23 ?_ | refine z18 ?_ | refine z11 ?_)
    refine z29 (fun (i : Nat) => [(4, .d (.i (i : Int))), (3, .d (.i (maxTo k.days i)))]) (fun _ => []) (fun i => i ≤ k.days.length ∧ R = ((k.days.drop i).any longD || (k.dishes.any longN || farK2 k))) (fun i => k.days.length - i) 0 ?_ ⟨Nat.zero_le _, hR⟩ ?_
    · simp (maxSteps := 4000000) only [go_sem, maxTo]
      refine z26 [] ?_ ?_ rfl rfl <;> simp [lessT, lessM, lessB, AV.less]
    · rintro i ⟨hi, hall⟩
      have hmx : max (maxTo k.days i) ((k.days.getD i []).length : Int) = maxTo k.days (i + 1) := rfl
      obtain ⟨mi, hmi⟩ : ∃ m, m = maxTo k.days i := ⟨_, rfl⟩
      rw [← hmi] at hmx
      simp (maxSteps := 4000000) only [go_sem, ← hmi]
      repeat (first | refine z21 ?_ | refine z16 ?_ | refine z14 ?_ | (refine z12 fun K hK => ?_; simp (maxSteps := 4000000) only [go_sem]; refine hK _ ?_; clear hK K) | refine z20 ?_ | refine z22 ?_ | refine z17 ?_ | refine z15 ?_ | refine z13 rfl ?_ | refine z19 ?_ | refine z10 ?_ | refine z23 ?_ | refine z18 ?_ | refine z11 ?_)
      refine z27 rfl (fun hb => ?_) (fun hb => ?_)
      · have hlt : i < k.days.length := by simpa using hb
        have hw : IntKind.i64.wrap ((i : Int) + 1) = ((i + 1 : Nat) : Int) := by rw [z30 (by omega)]; simp
        obtain ⟨r, hr⟩ : ∃ r, k.days[i]? = some r := ⟨_, List.getElem?_eq_getElem hlt⟩
        have g1 := z72 hr
        have hni : ¬ ((i : Int) < 0) := by omega
        rw [List.getD, hr, Option.getD_some] at hmx
        rw [z36 hr, List.any_cons] at hall
        cases q : longD r
        · rw [q, Bool.false_or] at hall
          rw [longD] at q
          repeat (first | refine z25 rfl ?_ | refine z24 rfl ?_ | refine z21 ?_ | refine z16 ?_ | refine z14 ?_ | (refine z12 fun K hK => ?_; simp (maxSteps := 4000000) only [go_sem, g1, hni, q, hw, hmx]; refine hK _ ?_; clear hK K) | refine z20 ?_ | refine z22 ?_ | refine z17 ?_ | refine z15 ?_ | refine z13 rfl ?_ | refine z19 ?_ | refine z10 ?_ | refine z23 ?_ | refine z18 ?_ | refine z11 ?_)
          refine ⟨rfl, i + 1, ?_, ⟨hlt, hall⟩, by omega⟩
          refine z26 [] ?_ ?_ rfl rfl <;> simp [lessT, lessM, lessB, AV.less]
          all_goals first | done | rfl | trace_state
        · rw [q, Bool.true_or] at hall
          rw [longD] at q
          subst hall
          repeat (first | refine z25 rfl ?_ | refine z24 rfl ?_ | refine z21 ?_ | refine z16 ?_ | refine z14 ?_ | (refine z12 fun K hK => ?_; simp (maxSteps := 4000000) only [go_sem, g1, hni, q]; refine hK _ ?_; clear hK K) | refine z20 ?_ | refine z22 ?_ | refine z17 ?_ | refine z15 ?_ | refine z13 rfl ?_ | refine z19 ?_ | refine z10 ?_ | refine z23 ?_ | refine z18 ?_ | refine z11 ?_)
          simp (maxSteps := 4000000) only [go_sem]
      · have he : i = k.days.length := by (have : ¬ i < k.days.length := by simpa using hb); omega
        subst he
        rw [List.drop_length, List.any_nil, Bool.false_or] at hall
        repeat (first | refine z21 ?_ | refine z16 ?_ | refine z14 ?_ | (refine z12 fun K hK => ?_; simp (maxSteps := 4000000) only [go_sem]; refine hK _ ?_; clear hK K) | refine z20 ?_ | refine z22 ?_ | refine z17 ?_ | refine z15 ?_ | refine z13 rfl ?_ | refine z19 ?_ | refine z10 ?_ | refine z23 ?_ | refine z18 ?_ | refine z11 ?_)
        refine z29 (fun (j : Nat) => [(5, .d (.i (j : Int)))]) (fun _ => []) (fun j => j ≤ k.dishes.length ∧ R = ((k.dishes.drop j).any longN || farK2 k)) (fun j => k.dishes.length - j) 0 ?_ ⟨Nat.zero_le _, hall⟩ ?_
        · simp (maxSteps := 4000000) only [go_sem]
          refine z26 [] ?_ ?_ rfl rfl <;> simp [lessT, lessM, lessB, AV.less]
        · rintro j ⟨hj, hallj⟩
          simp (maxSteps := 4000000) only [go_sem]
          repeat (first | refine z21 ?_ | refine z16 ?_ | refine z14 ?_ | (refine z12 fun K hK => ?_; simp (maxSteps := 4000000) only [go_sem]; refine hK _ ?_; clear hK K) | refine z20 ?_ | refine z22 ?_ | refine z17 ?_ | refine z15 ?_ | refine z13 rfl ?_ | refine z19 ?_ | refine z10 ?_ | refine z23 ?_ | refine z18 ?_ | refine z11 ?_)
          refine z27 rfl (fun hb => ?_) (fun hb => ?_)
          · have hlt : j < k.dishes.length := by simpa using hb
            have hw : IntKind.i64.wrap ((j : Int) + 1) = ((j + 1 : Nat) : Int) := by rw [z30 (by omega)]; simp
            obtain ⟨r, hr⟩ : ∃ r, k.dishes[j]? = some r := ⟨_, List.getElem?_eq_getElem hlt⟩
            have g1 := z136 hr
            rw [Dish.row] at g1
            have hni : ¬ ((j : Int) < 0) := by omega
            rw [z36 hr, List.any_cons] at hallj
            cases q : longN r
            · rw [q, Bool.false_or] at hallj
              rw [longN] at q
              repeat (first | refine z25 rfl ?_ | refine z24 rfl ?_ | refine z21 ?_ | refine z16 ?_ | refine z14 ?_ | (refine z12 fun K hK => ?_; simp (maxSteps := 4000000) only [go_sem, g1, hni, q, hw]; refine hK _ ?_; clear hK K) | refine z20 ?_ | refine z22 ?_ | refine z17 ?_ | refine z15 ?_ | refine z13 rfl ?_ | refine z19 ?_ | refine z10 ?_ | refine z23 ?_ | refine z18 ?_ | refine z11 ?_)
              refine ⟨rfl, j + 1, ?_, ⟨hlt, hallj⟩, by omega⟩
              refine z26 [] ?_ ?_ rfl rfl <;> simp [lessT, lessM, lessB, AV.less]
            · rw [q, Bool.true_or] at hallj
              rw [longN] at q
              subst hallj
              repeat (first | refine z25 rfl ?_ | refine z24 rfl ?_ | refine z21 ?_ | refine z16 ?_ | refine z14 ?_ | (refine z12 fun K hK => ?_; simp (maxSteps := 4000000) only [go_sem, g1, hni, q]; refine hK _ ?_; clear hK K) | refine z20 ?_ | refine z22 ?_ | refine z17 ?_ | refine z15 ?_ | refine z13 rfl ?_ | refine z19 ?_ | refine z10 ?_ | refine z23 ?_ | refine z18 ?_ | refine z11 ?_)
              simp (maxSteps := 4000000) only [go_sem]
          · have he : j = k.dishes.length := by (have : ¬ j < k.dishes.length := by simpa using hb); omega
            subst he
            rw [List.drop_length, List.any_nil, Bool.false_or, farK2, ← hmi] at hallj
            obtain ⟨e, he⟩ : ∃ e, e = kitE k := ⟨_, rfl⟩
            rw [← he] at h44 hallj
            cases q0 : (e == 0)
            · rw [q0, Bool.false_and] at hallj
              subst hallj
              repeat (first | refine z25 rfl ?_ | refine z24 rfl ?_ | refine z21 ?_ | refine z16 ?_ | refine z14 ?_ | (refine z12 fun K hK => ?_; simp (maxSteps := 4000000) only [go_sem, q0]; (repeat (first | (refine ⟨_, .lent (hf := h44) (hd := rfl) (hr := rfl), ?_⟩; simp (maxSteps := 4000000) only [go_sem, q0]) | (refine ⟨_, .given (hf := h44) (hd := rfl) (ha := rfl), ?_⟩; simp (maxSteps := 4000000) only [go_sem, q0]))); refine hK _ ?_; clear hK K) | refine z20 ?_ | refine z22 ?_ | refine z17 ?_ | refine z15 ?_ | refine z13 rfl ?_ | refine z19 ?_ | refine z10 ?_ | refine z23 ?_ | refine z18 ?_ | refine z11 ?_)
              simp (maxSteps := 4000000) only [go_sem]
            · rw [q0, Bool.true_and] at hallj
              cases q1 : decide ((k.dishes.length : Int) > 3)
              · rw [q1, Bool.false_or] at hallj
                cases q2 : decide ((k.days.length : Int) > 3)
                · rw [q2, Bool.false_or] at hallj
                  subst hallj
                  repeat (first | refine z25 rfl ?_ | refine z24 rfl ?_ | refine z21 ?_ | refine z16 ?_ | refine z14 ?_ | (refine z12 fun K hK => ?_; simp (maxSteps := 4000000) only [go_sem, q0, q1, q2]; (repeat (first | (refine ⟨_, .lent (hf := h44) (hd := rfl) (hr := rfl), ?_⟩; simp (maxSteps := 4000000) only [go_sem, q0, q1, q2]) | (refine ⟨_, .given (hf := h44) (hd := rfl) (ha := rfl), ?_⟩; simp (maxSteps := 4000000) only [go_sem, q0, q1, q2]))); refine hK _ ?_; clear hK K) | refine z20 ?_ | refine z22 ?_ | refine z17 ?_ | refine z15 ?_ | refine z13 rfl ?_ | refine z19 ?_ | refine z10 ?_ | refine z23 ?_ | refine z18 ?_ | refine z11 ?_)
                  simp (maxSteps := 4000000) only [go_sem]
                · rw [q2, Bool.true_or] at hallj
                  subst hallj
                  repeat (first | refine z25 rfl ?_ | refine z24 rfl ?_ | refine z21 ?_ | refine z16 ?_ | refine z14 ?_ | (refine z12 fun K hK => ?_; simp (maxSteps := 4000000) only [go_sem, q0, q1, q2]; (repeat (first | (refine ⟨_, .lent (hf := h44) (hd := rfl) (hr := rfl), ?_⟩; simp (maxSteps := 4000000) only [go_sem, q0, q1, q2]) | (refine ⟨_, .given (hf := h44) (hd := rfl) (ha := rfl), ?_⟩; simp (maxSteps := 4000000) only [go_sem, q0, q1, q2]))); refine hK _ ?_; clear hK K) | refine z20 ?_ | refine z22 ?_ | refine z17 ?_ | refine z15 ?_ | refine z13 rfl ?_ | refine z19 ?_ | refine z10 ?_ | refine z23 ?_ | refine z18 ?_ | refine z11 ?_)
                  simp (maxSteps := 4000000) only [go_sem]
              · rw [q1, Bool.true_or] at hallj
                subst hallj
                repeat (first | refine z25 rfl ?_ | refine z24 rfl ?_ | refine z21 ?_ | refine z16 ?_ | refine z14 ?_ | (refine z12 fun K hK => ?_; simp (maxSteps := 4000000) only [go_sem, q0, q1]; (repeat (first | (refine ⟨_, .lent (hf := h44) (hd := rfl) (hr := rfl), ?_⟩; simp (maxSteps := 4000000) only [go_sem, q0, q1]) | (refine ⟨_, .given (hf := h44) (hd := rfl) (ha := rfl), ?_⟩; simp (maxSteps := 4000000) only [go_sem, q0, q1]))); refine hK _ ?_; clear hK K) | refine z20 ?_ | refine z22 ?_ | refine z17 ?_ | refine z15 ?_ | refine z13 rfl ?_ | refine z19 ?_ | refine z10 ?_ | refine z23 ?_ | refine z18 ?_ | refine z11 ?_)
                simp (maxSteps := 4000000) only [go_sem]
end Go.Ab
namespace Go.Ab
open Go.RowKit Go.Proofs
set_option maxHeartbeats 16000000
set_option maxRecDepth 20000
attribute [local irreducible] WalkL Walk
def suitsP (k : Kitchen) (no : Int) : List Int × Int := if kitE k = 0 then (if setB no = true then (suitL k no, 0) else ([], 1)) else ([], kitE k)
def readyB (k : Kitchen) : Bool := !far7 k && (kitE k == 0)
theorem zf22 (k : Kitchen) (hs : KitSmall k) : Fn Try.prog 22 [.agg k.cells] (.bool (readyB k)) := by
  have h11 := zf11 k hs
  have h32 := zf32 k hs
  rw [Kitchen.cells] at h11 h32 ⊢
  unfold readyB
  cases q1 : far7 k
  · rw [q1] at h11
    cases q2 : (kitE k == 0)
    · refine z31 11 Try.call22 Try.func22 rfl (by decide) fun J => ?_
      simp (maxSteps := 4000000) only [go_sem, St.start, Try.ntmps22, Try.results22]
      repeat (first | refine z25 rfl ?_ | refine z24 rfl ?_ | refine z21 ?_ | refine z16 ?_ | refine z14 ?_ | (refine z12 fun K hK => ?_; simp (maxSteps := 4000000) only [go_sem, q2]; (repeat (first | (refine ⟨_, .lent (hf := h11) (hd := rfl) (hr := rfl), ?_⟩; simp (maxSteps := 4000000) only [go_sem, q2]) | (refine ⟨_, .lent (hf := h32) (hd := rfl) (hr := rfl), ?_⟩; simp (maxSteps := 4000000) only [go_sem, q2]) | (refine ⟨_, .given (hf := h11) (hd := rfl) (ha := rfl), ?_⟩; simp (maxSteps := 4000000) only [go_sem, q2]) | (refine ⟨_, .given (hf := h32) (hd := rfl) (ha := rfl), ?_⟩; simp (maxSteps := 4000000) only [go_sem, q2]))); refine hK _ ?_; clear hK K) | refine z20 ?_ | refine z22 ?_ | refine z17 ?_ | refine z15 ?_ | refine z13 rfl ?_ | refine z19 ?_ | refine z10 ?_ | refine z23 ?_ | refine z18 ?_ | refine z11 ?_)
      simp (maxSteps := 4000000) only [go_sem, q2]
    · refine z31 11 Try.call22 Try.func22 rfl (by decide) fun J => ?_
      simp (maxSteps := 4000000) only [go_sem, St.start, Try.ntmps22, Try.results22]
      repeat (first | refine z25 rfl ?_ | refine z24 rfl ?_ | refine z21 ?_ | refine z16 ?_ | refine z14 ?_ | (refine z12 fun K hK => ?_; simp (maxSteps := 4000000) only [go_sem, q2]; (repeat (first | (refine ⟨_, .lent (hf := h11) (hd := rfl) (hr := rfl), ?_⟩; simp (maxSteps := 4000000) only [go_sem, q2]) | (refine ⟨_, .lent (hf := h32) (hd := rfl) (hr := rfl), ?_⟩; simp (maxSteps := 4000000) only [go_sem, q2]) | (refine ⟨_, .given (hf := h11) (hd := rfl) (ha := rfl), ?_⟩; simp (maxSteps := 4000000) only [go_sem, q2]) | (refine ⟨_, .given (hf := h32) (hd := rfl) (ha := rfl), ?_⟩; simp (maxSteps := 4000000) only [go_sem, q2]))); refine hK _ ?_; clear hK K) | refine z20 ?_ | refine z22 ?_ | refine z17 ?_ | refine z15 ?_ | refine z13 rfl ?_ | refine z19 ?_ | refine z10 ?_ | refine z23 ?_ | refine z18 ?_ | refine z11 ?_)
      simp (maxSteps := 4000000) only [go_sem, q2]
  · rw [q1] at h11
    refine z31 11 Try.call22 Try.func22 rfl (by decide) fun J => ?_
    simp (maxSteps := 4000000) only [go_sem, St.start, Try.ntmps22, Try.results22]
    repeat (first | refine z25 rfl ?_ | refine z24 rfl ?_ | refine z21 ?_ | refine z16 ?_ | refine z14 ?_ | (refine z12 fun K hK => ?_; simp (maxSteps := 4000000) only [go_sem]; (repeat (first | (refine ⟨_, .lent (hf := h11) (hd := rfl) (hr := rfl), ?_⟩; simp (maxSteps := 4000000) only [go_sem]) | (refine ⟨_, .given (hf := h11) (hd := rfl) (ha := rfl), ?_⟩; simp (maxSteps := 4000000) only [go_sem]))); refine hK _ ?_; clear hK K) | refine z20 ?_ | refine z22 ?_ | refine z17 ?_ | refine z15 ?_ | refine z13 rfl ?_ | refine z19 ?_ | refine z10 ?_ | refine z23 ?_ | refine z18 ?_ | refine z11 ?_)
    simp (maxSteps := 4000000) only [go_sem]
end Go.Ab
namespace Go.Ab
open Go.RowKit Go.Proofs
set_option maxHeartbeats 16000000
set_option maxRecDepth 20000
attribute [local irreducible] WalkL Walk
end Go.Ab
namespace Go.Ab
open Go.RowKit Go.Proofs
set_option maxHeartbeats 16000000
set_option maxRecDepth 20000
attribute [local irreducible] WalkL Walk
theorem zf24 (k : Kitchen) (hg : KitGood k) (M : List (List Int)) (hM : M.length < 2 ^ 30) (hMr : ∀ r ∈ M, r.length < 2 ^ 30) : Fn Try.prog 24 [.agg k.cells, .sl (listRows M)] (.bool (shapedB (countB) M k.days)) := by
  obtain ⟨q, hqd⟩ : ∃ q, q = countB := ⟨_, rfl⟩
  have hq : ∀ (n : Int) (g : Diners), q n g = withinB n g.count.lo g.count.hi := fun n g => by rw [hqd]; rfl
  rw [← hqd]
  have hgr := hg.groups
  have hdl := hg.dishes
  obtain ⟨R, hR⟩ : ∃ R, R = shapedB q M k.days := ⟨_, rfl⟩
  rw [← hR]
  cases q1 : ((M.length : Int) != (k.days.length : Int))
  · have hl : M.length = k.days.length := by
      simp only [bne_eq_false_iff_eq] at q1
      omega
    refine z31 69 Try.call24 Try.func24 rfl (by decide) fun J => ?_
    simp (maxSteps := 4000000) only [go_sem, St.start, Try.ntmps24, Try.results24, Kitchen.cells]
    repeat (first | refine z25 rfl ?_ | refine z24 rfl ?_ | refine z21 ?_ | refine z16 ?_ | refine z14 ?_ | (refine z12 fun K hK => ?_; simp (maxSteps := 4000000) only [go_sem, q1, z37]; refine hK _ ?_; clear hK K) | refine z20 ?_ | refine z22 ?_ | refine z17 ?_ | refine z15 ?_ | refine z13 rfl ?_ | refine z19 ?_ | refine z10 ?_ | refine z23 ?_ | refine z18 ?_ | refine z11 ?_)
    refine z29 (fun (i : Nat) => [(5, .d (.i (i : Int))), (6, .undef)]) (fun _ => []) (fun i => i ≤ M.length ∧ R = shapedB q (M.drop i) (k.days.drop i)) (fun i => M.length - i) 0 ?_ ⟨Nat.zero_le _, hR⟩ ?_
    · simp (maxSteps := 4000000) only [go_sem]
      refine z26 [] ?_ ?_ rfl rfl <;> simp [lessT, lessM, lessB, AV.less]
    · rintro i ⟨hi, hRi⟩
      simp (maxSteps := 4000000) only [go_sem]
      repeat (first | refine z21 ?_ | refine z16 ?_ | refine z14 ?_ | (refine z12 fun K hK => ?_; simp (maxSteps := 4000000) only [go_sem, z37]; refine hK _ ?_; clear hK K) | refine z20 ?_ | refine z22 ?_ | refine z17 ?_ | refine z15 ?_ | refine z13 rfl ?_ | refine z19 ?_ | refine z10 ?_ | refine z23 ?_ | refine z18 ?_ | refine z11 ?_)
      refine z27 rfl (fun hb => ?_) (fun hb => ?_)
      · have hlt : i < M.length := by simpa using hb
        have hw : IntKind.i64.wrap ((i : Int) + 1) = ((i + 1 : Nat) : Int) := by rw [z30 (by omega)]; simp
        obtain ⟨d, hd⟩ : ∃ d, k.days[i]? = some d := ⟨_, List.getElem?_eq_getElem (by omega)⟩
        obtain ⟨r, hr⟩ : ∃ r, M[i]? = some r := ⟨_, List.getElem?_eq_getElem (by omega)⟩
        have g1 := z72 hd
        have g2 := z48 hr
        have hni : ¬ ((i : Int) < 0) := by omega
        have hd3 := (hgr d (List.mem_of_getElem? hd)).1
        rw [z36 hd, z36 hr, shapedB] at hRi
        cases q2 : ((r.length : Int) != (d.length : Int))
        · have hrl : r.length = d.length := by
            simp only [bne_eq_false_iff_eq] at q2
            omega
          repeat (first | refine z21 ?_ | refine z16 ?_ | refine z14 ?_ | (refine z12 fun K hK => ?_; simp (maxSteps := 4000000) only [go_sem]; refine hK _ ?_; clear hK K) | refine z20 ?_ | refine z22 ?_ | refine z17 ?_ | refine z15 ?_ | refine z13 rfl ?_ | refine z19 ?_ | refine z10 ?_ | refine z23 ?_ | refine z18 ?_ | refine z11 ?_)
          refine z28 (by kernel_rfl) (by kernel_rfl) fun K hK => ?_
          simp (maxSteps := 4000000) only [go_sem, g1, g2, hni, q2]
          refine ⟨by kernel_rfl, hK _ ?_⟩
          clear hK K
          repeat (first | refine z25 rfl ?_ | refine z24 rfl ?_ | refine z21 ?_ | refine z16 ?_ | refine z14 ?_ | (refine z12 fun K hK => ?_; simp (maxSteps := 4000000) only [go_sem]; refine hK _ ?_; clear hK K) | refine z20 ?_ | refine z22 ?_ | refine z17 ?_ | refine z15 ?_ | refine z13 rfl ?_ | refine z19 ?_ | refine z10 ?_ | refine z23 ?_ | refine z18 ?_ | refine z11 ?_)
          refine z29 (fun (j : Nat) => [(6, .d (.i (j : Int)))]) (fun _ => []) (fun j => j ≤ r.length ∧ R = (rowOk q (r.drop j) (d.drop j) && shapedB q (M.drop (i + 1)) (k.days.drop (i + 1)))) (fun j => r.length - j) 0 ?_ ⟨Nat.zero_le _, hRi⟩ ?_
          · simp (maxSteps := 4000000) only [go_sem]
            refine z26 [] ?_ ?_ rfl rfl <;> simp [lessT, lessM, lessB, AV.less]
          · rintro j ⟨hj, hRj⟩
            simp (maxSteps := 4000000) only [go_sem]
            repeat (first | refine z21 ?_ | refine z16 ?_ | refine z14 ?_ | (refine z12 fun K hK => ?_; simp (maxSteps := 4000000) only [go_sem, g2, hni]; refine hK _ ?_; clear hK K) | refine z20 ?_ | refine z22 ?_ | refine z17 ?_ | refine z15 ?_ | refine z13 rfl ?_ | refine z19 ?_ | refine z10 ?_ | refine z23 ?_ | refine z18 ?_ | refine z11 ?_)
            refine z27 rfl (fun hb => ?_) (fun hb => ?_)
            · have hltj : j < r.length := by simpa using hb
              have hwj : IntKind.i64.wrap ((j : Int) + 1) = ((j + 1 : Nat) : Int) := by rw [z30 (by omega)]; simp
              obtain ⟨g, hgj⟩ : ∃ g, d[j]? = some g := ⟨_, List.getElem?_eq_getElem (by omega)⟩
              obtain ⟨n, hnj⟩ : ∃ n, r[j]? = some n := ⟨_, List.getElem?_eq_getElem (by omega)⟩
              have g3 := z88 hgj
              have g4 := z46 hnj
              rw [Diners.row] at g3
              have hnjj : ¬ ((j : Int) < 0) := by omega
              have c1 := zf51 n g.count.lo g.count.hi
              rw [z36 hgj, z36 hnj, rowOk, hq] at hRj
              cases q3 : withinB n g.count.lo g.count.hi
              · rw [q3] at hRj c1
                rw [Bool.false_and, Bool.false_and] at hRj
                rw [hRj]
                repeat (first | refine z21 ?_ | refine z16 ?_ | refine z14 ?_ | (refine z12 fun K hK => ?_; simp (maxSteps := 4000000) only [go_sem]; refine hK _ ?_; clear hK K) | refine z20 ?_ | refine z22 ?_ | refine z17 ?_ | refine z15 ?_ | refine z13 rfl ?_ | refine z19 ?_ | refine z10 ?_ | refine z23 ?_ | refine z18 ?_ | refine z11 ?_)
                refine z28 (by kernel_rfl) (by kernel_rfl) fun K hK => ?_
                simp (maxSteps := 4000000) only [go_sem, g1, g2, g3, g4, hni, hnjj]
                refine ⟨_, .fn (hf := c1) (hd := rfl) (hr := .inl rfl), ?_⟩
                simp (maxSteps := 4000000) only [go_sem]
                refine ⟨by kernel_rfl, hK _ ?_⟩
                clear hK K
                repeat (first | refine z25 rfl ?_ | refine z24 rfl ?_ | refine z21 ?_ | refine z16 ?_ | refine z14 ?_ | (refine z12 fun K hK => ?_; simp (maxSteps := 4000000) only [go_sem]; refine hK _ ?_; clear hK K) | refine z20 ?_ | refine z22 ?_ | refine z17 ?_ | refine z15 ?_ | refine z13 rfl ?_ | refine z19 ?_ | refine z10 ?_ | refine z23 ?_ | refine z18 ?_ | refine z11 ?_)
                simp (maxSteps := 4000000) only [go_sem]
              · rw [q3] at hRj c1
                rw [Bool.true_and] at hRj
                repeat (first | refine z21 ?_ | refine z16 ?_ | refine z14 ?_ | (refine z12 fun K hK => ?_; simp (maxSteps := 4000000) only [go_sem]; refine hK _ ?_; clear hK K) | refine z20 ?_ | refine z22 ?_ | refine z17 ?_ | refine z15 ?_ | refine z13 rfl ?_ | refine z19 ?_ | refine z10 ?_ | refine z23 ?_ | refine z18 ?_ | refine z11 ?_)
                refine z28 (by kernel_rfl) (by kernel_rfl) fun K hK => ?_
                simp (maxSteps := 4000000) only [go_sem, g1, g2, g3, g4, hni, hnjj]
                refine ⟨_, .fn (hf := c1) (hd := rfl) (hr := .inl rfl), ?_⟩
                simp (maxSteps := 4000000) only [go_sem]
                refine ⟨by kernel_rfl, hK _ ?_⟩
                clear hK K
                repeat (first | refine z25 rfl ?_ | refine z24 rfl ?_ | refine z21 ?_ | refine z16 ?_ | refine z14 ?_ | (refine z12 fun K hK => ?_; simp (maxSteps := 4000000) only [go_sem, hwj]; refine hK _ ?_; clear hK K) | refine z20 ?_ | refine z22 ?_ | refine z17 ?_ | refine z15 ?_ | refine z13 rfl ?_ | refine z19 ?_ | refine z10 ?_ | refine z23 ?_ | refine z18 ?_ | refine z11 ?_)
                refine ⟨rfl, j + 1, ?_, ⟨hltj, hRj⟩, by omega⟩
                refine z26 [] ?_ ?_ rfl rfl <;> simp [lessT, lessM, lessB, AV.less]
            · have he : j = r.length := by (have : ¬ j < r.length := by simpa using hb); omega
              subst he
              rw [List.drop_length, hrl, List.drop_length, rowOk, Bool.true_and] at hRj
              repeat (first | refine z21 ?_ | refine z16 ?_ | refine z14 ?_ | (refine z12 fun K hK => ?_; simp (maxSteps := 4000000) only [go_sem, hw]; refine hK _ ?_; clear hK K) | refine z20 ?_ | refine z22 ?_ | refine z17 ?_ | refine z15 ?_ | refine z13 rfl ?_ | refine z19 ?_ | refine z10 ?_ | refine z23 ?_ | refine z18 ?_ | refine z11 ?_)
              refine ⟨rfl, i + 1, ?_, ⟨hlt, hRj⟩, by omega⟩
              refine z26 [] ?_ ?_ rfl rfl <;> simp [lessT, lessM, lessB, AV.less]
        · have hf : rowOk q r d = false := by
            cases hx : rowOk q r d with
            | false => rfl
            | true =>
              have := z73 hx
              rw [this] at q2
              simp at q2
          rw [hf, Bool.false_and] at hRi
          rw [hRi]
          repeat (first | refine z21 ?_ | refine z16 ?_ | refine z14 ?_ | (refine z12 fun K hK => ?_; simp (maxSteps := 4000000) only [go_sem]; refine hK _ ?_; clear hK K) | refine z20 ?_ | refine z22 ?_ | refine z17 ?_ | refine z15 ?_ | refine z13 rfl ?_ | refine z19 ?_ | refine z10 ?_ | refine z23 ?_ | refine z18 ?_ | refine z11 ?_)
          refine z28 (by kernel_rfl) (by kernel_rfl) fun K hK => ?_
          simp (maxSteps := 4000000) only [go_sem, g1, g2, hni, q2]
          refine ⟨by kernel_rfl, hK _ ?_⟩
          clear hK K
          repeat (first | refine z25 rfl ?_ | refine z24 rfl ?_ | refine z21 ?_ | refine z16 ?_ | refine z14 ?_ | (refine z12 fun K hK => ?_; simp (maxSteps := 4000000) only [go_sem]; refine hK _ ?_; clear hK K) | refine z20 ?_ | refine z22 ?_ | refine z17 ?_ | refine z15 ?_ | refine z13 rfl ?_ | refine z19 ?_ | refine z10 ?_ | refine z23 ?_ | refine z18 ?_ | refine z11 ?_)
          simp (maxSteps := 4000000) only [go_sem]
      · have he : i = M.length := by (have : ¬ i < M.length := by simpa using hb); omega
        subst he
        rw [List.drop_length, hl, List.drop_length, shapedB] at hRi
        rw [hRi]
        repeat (first | refine z21 ?_ | refine z16 ?_ | refine z14 ?_ | (refine z12 fun K hK => ?_; simp (maxSteps := 4000000) only [go_sem]; refine hK _ ?_; clear hK K) | refine z20 ?_ | refine z22 ?_ | refine z17 ?_ | refine z15 ?_ | refine z13 rfl ?_ | refine z19 ?_ | refine z10 ?_ | refine z23 ?_ | refine z18 ?_ | refine z11 ?_)
        simp (maxSteps := 4000000) only [go_sem]
  · have hf : R = false := by
      rw [hR]
      cases hx : shapedB q M k.days with
      | false => rfl
      | true =>
        have := z52 hx
        rw [this] at q1
        simp at q1
    rw [hf]
    refine z31 69 Try.call24 Try.func24 rfl (by decide) fun J => ?_
    simp (maxSteps := 4000000) only [go_sem, St.start, Try.ntmps24, Try.results24, Kitchen.cells]
    repeat (first | refine z25 rfl ?_ | refine z24 rfl ?_ | refine z21 ?_ | refine z16 ?_ | refine z14 ?_ | (refine z12 fun K hK => ?_; simp (maxSteps := 4000000) only [go_sem, q1, z37]; refine hK _ ?_; clear hK K) | refine z20 ?_ | refine z22 ?_ | refine z17 ?_ | refine z15 ?_ | refine z13 rfl ?_ | refine z19 ?_ | refine z10 ?_ | refine z23 ?_ | refine z18 ?_ | refine z11 ?_)
    simp (maxSteps := 4000000) only [go_sem]
theorem zf26 (k : Kitchen) (hg : KitGood k) (ds cs : List Int) (good : Nat) (hgd : good < k.allerg.length) (hd : DayOk k ds fun g => getI cs (g : Int)) (hl : cs.length = ds.length) :
    Fn Try.prog 26 [.agg k.cells, .sl (intRows ds), .sl (intRows cs), .i (good : Int)] (.i (needG k ds (fun g => getI cs (g : Int)) good ds.length)) := by
  have hdl := hd.len
  obtain ⟨f, hf⟩ : ∃ f : Nat → Int, f = needG k ds (fun g => getI cs (g : Int)) good := ⟨_, rfl⟩
  have hf0 : f 0 = 0 := by rw [hf]; rfl
  have hfs : ∀ i, f (i + 1) = f i + getI (dishAt k (getI ds (i : Int))).needs (good : Int) * getI cs (i : Int) := fun i => by rw [hf]; rfl
  have hfr : ∀ i, i ≤ ds.length → 0 ≤ f i ∧ f i ≤ 500000 * i := fun i hi => by rw [hf]; exact z120 hg hd good i hi
  rw [← hf]
  have hng : ¬ ((good : Int) < 0) := by omega
  refine z31 37 Try.call26 Try.func26 rfl (by decide) fun J => ?_
  simp (maxSteps := 4000000) only [go_sem, St.start, Try.ntmps26, Try.results26, Kitchen.cells]
  repeat (first | refine z21 ?_ | refine z16 ?_ | refine z14 ?_ | (refine z12 fun K hK => ?_; simp (maxSteps := 4000000) only [go_sem]; refine hK _ ?_; clear hK K) | refine z20 ?_ | refine z22 ?_ | refine z17 ?_ | refine z15 ?_ | refine z13 rfl ?_ | refine z19 ?_ | refine z10 ?_ | refine z23 ?_ | refine z18 ?_ | refine z11 ?_)
  refine z29 (fun (i : Nat) => [(10, .d (.i (i : Int))), (9, .d (.i (f i)))]) (fun _ => []) (fun i => i ≤ ds.length) (fun i => ds.length - i) 0 ?_ (Nat.zero_le _) ?_
  · rw [hf0]
    simp (maxSteps := 4000000) only [go_sem]
    refine z26 [] ?_ ?_ rfl rfl <;> simp [lessT, lessM, lessB, AV.less]
    all_goals first | done | rfl | trace_state
  · intro i hi
    simp (maxSteps := 4000000) only [go_sem]
    repeat (first | refine z21 ?_ | refine z16 ?_ | refine z14 ?_ | (refine z12 fun K hK => ?_; simp (maxSteps := 4000000) only [go_sem, z32]; refine hK _ ?_; clear hK K) | refine z20 ?_ | refine z22 ?_ | refine z17 ?_ | refine z15 ?_ | refine z13 rfl ?_ | refine z19 ?_ | refine z10 ?_ | refine z23 ?_ | refine z18 ?_ | refine z11 ?_)
    refine z27 rfl (fun hb => ?_) (fun hb => ?_)
    · have hlt : i < ds.length := by simpa using hb
      have hw : IntKind.i64.wrap ((i : Int) + 1) = ((i + 1 : Nat) : Int) := by rw [z30 (by omega)]; simp
      obtain ⟨n, hn, hnl⟩ := hd.dish i hlt
      have g1 := z46 hn
      have gd := dish_at hnl
      have hnl2 := z256 hg hnl
      have e : getI ds (i : Int) = n := by rw [getI, Int.toNat_natCast, List.getD, hn]; rfl
      have hq := z289 hg hnl (good : Int)
      have hfi := hfs i
      rw [e] at hfi
      have gc := z34 (l := cs) (i := i) (by omega)
      obtain ⟨N, hN⟩ : ∃ N, N = (dishAt k (n : Int)).needs := ⟨_, rfl⟩
      rw [← hN] at hnl2 gd hq hfi
      have gN := z34 (l := N) (i := good) (by omega)
      have hcr := hd.cnt i hlt
      have r1 := hfr i hi
      have m1 : 0 ≤ getI N (good : Int) * getI cs (i : Int) := Int.mul_nonneg hq.1 hcr.1
      have m2 : getI N (good : Int) * getI cs (i : Int) ≤ 5000 * 100 := Int.mul_le_mul hq.2 hcr.2 hcr.1 (by decide)
      have e1 : IntKind.i64.wrap (getI N (good : Int) * getI cs (i : Int)) = getI N (good : Int) * getI cs (i : Int) := z30 (by omega)
      have e2 : IntKind.i64.wrap (f i + getI N (good : Int) * getI cs (i : Int)) = f (i + 1) := by rw [hfi]; exact z30 (by omega)
      have hni : ¬ ((i : Int) < 0) := by omega
      have hnn : ¬ ((n : Int) < 0) := by omega
      repeat (first | refine z21 ?_ | refine z16 ?_ | refine z14 ?_ | (refine z12 fun K hK => ?_; simp (maxSteps := 4000000) only [go_sem]; refine hK _ ?_; clear hK K) | refine z20 ?_ | refine z22 ?_ | refine z17 ?_ | refine z15 ?_ | refine z13 rfl ?_ | refine z19 ?_ | refine z10 ?_ | refine z23 ?_ | refine z18 ?_ | refine z11 ?_)
      refine z28 (by kernel_rfl) (by kernel_rfl) fun K hK => ?_
      simp (maxSteps := 4000000) only [go_sem, g1, gd, gN, gc, hni, hnn, hng, e1, e2]
      refine ⟨by kernel_rfl, hK _ ?_⟩
      clear hK K
      repeat (first | refine z21 ?_ | refine z16 ?_ | refine z14 ?_ | (refine z12 fun K hK => ?_; simp (maxSteps := 4000000) only [go_sem, hw]; refine hK _ ?_; clear hK K) | refine z20 ?_ | refine z22 ?_ | refine z17 ?_ | refine z15 ?_ | refine z13 rfl ?_ | refine z19 ?_ | refine z10 ?_ | refine z23 ?_ | refine z18 ?_ | refine z11 ?_)
      refine ⟨rfl, i + 1, ?_, hlt, by omega⟩
      refine z26 [] ?_ ?_ rfl rfl <;> simp [lessT, lessM, lessB, AV.less]
      all_goals first | done | rfl | trace_state
    · have he : i = ds.length := by (have : ¬ i < ds.length := by simpa using hb); omega
      subst he
      repeat (first | refine z21 ?_ | refine z16 ?_ | refine z14 ?_ | (refine z12 fun K hK => ?_; simp (maxSteps := 4000000) only [go_sem]; refine hK _ ?_; clear hK K) | refine z20 ?_ | refine z22 ?_ | refine z17 ?_ | refine z15 ?_ | refine z13 rfl ?_ | refine z19 ?_ | refine z10 ?_ | refine z23 ?_ | refine z18 ?_ | refine z11 ?_)
      simp (maxSteps := 4000000) only [go_sem]
end Go.Ab
namespace Go.Ab
open Go.RowKit Go.Proofs
def sumN (f : Nat → Int) : Nat → Int
  | 0 => 0
  | n + 1 => sumN f n + f n
theorem z114 {f g : Nat → Int} : ∀ n, (∀ i, i < n → f i = g i) → sumN f n = sumN g n
  | 0, _ => rfl
  | n + 1, h => by rw [sumN, sumN, z114 n fun i hi => h i (by omega), h n (by omega)]
theorem z85 {f : Nat → Int} : ∀ n, (∀ i, i < n → 0 ≤ f i) → 0 ≤ sumN f n
  | 0, _ => Int.le_refl _
  | n + 1, h => by
    have h1 := z85 n fun i hi => h i (by omega)
    have h2 := h n (by omega)
    rw [sumN]
    omega
theorem z209 {f : Nat → Int} {b : Int} : ∀ n : Nat, (∀ i, i < n → f i ≤ b) → sumN f n ≤ b * n
  | 0, _ => by simp [sumN]
  | n + 1, h => by
    have h1 := z209 n fun i hi => h i (by omega)
    have h2 := h n (by omega)
    rw [sumN, Int.natCast_add, Int.mul_add]
    simp
    omega
theorem sumN_add (f g : Nat → Int) : ∀ n, sumN (fun i => f i + g i) n = sumN f n + sumN g n
  | 0 => rfl
  | n + 1 => by
    rw [sumN, sumN, sumN, sumN_add f g n]
    omega
theorem sumN_sub (f g : Nat → Int) : ∀ n, sumN (fun i => f i - g i) n = sumN f n - sumN g n
  | 0 => rfl
  | n + 1 => by
    rw [sumN, sumN, sumN, sumN_sub f g n]
    omega
theorem sumN_zero : ∀ n, sumN (fun _ => 0) n = 0
  | 0 => rfl
  | n + 1 => by rw [sumN, sumN_zero n]; rfl
theorem sumN_swap (f : Nat → Nat → Int) (m : Nat) : ∀ n, sumN (fun i => sumN (fun j => f i j) m) n = sumN (fun j => sumN (fun i => f i j) n) m
  | 0 => by
    rw [sumN]
    exact (sumN_zero m).symm
  | n + 1 => by
    rw [sumN, sumN_swap f m n, ← sumN_add]
    exact z114 m fun j _ => rfl
theorem z253 (l : List Int) (i : Nat) : getI l (i : Int) = l.getD i 0 := by rw [getI, Int.toNat_natCast]
theorem z197 {l : List Int} {i : Nat} (hi : i < l.length) (x : Int) (j : Nat) : getI (l.set i x) (j : Int) = if j = i then x else getI l (j : Int) := by
  rw [z253, z253, List.getD_eq_getElem?_getD, List.getD_eq_getElem?_getD, List.getElem?_set]
  by_cases h : i = j
  · subst h; rw [if_pos rfl, if_pos hi, if_pos rfl]; rfl
  · rw [if_neg h, if_neg (fun e => h e.symm)]
def wOf (k : Kitchen) (q : Int → Bool) (l : List Int) : Int := sumN (fun i => if q (batAt k i).good then getI l (i : Int) else 0) k.batches.length
theorem wOf_set {k : Kitchen} {q : Int → Bool} {l : List Int} {i : Nat} (hi : i < k.batches.length) (hl : l.length = k.batches.length) (x : Int) : wOf k q (l.set i x) = wOf k q l + if q (batAt k i).good then x - getI l (i : Int) else 0 := by
  have key : ∀ n, sumN (fun j => if q (batAt k j).good then getI (l.set i x) (j : Int) else 0) n = sumN (fun j => if q (batAt k j).good then getI l (j : Int) else 0) n + if i < n then (if q (batAt k i).good then x - getI l (i : Int) else 0) else 0 := by
    intro n
    induction n with
    | zero => simp [sumN]
    | succ n ih =>
      rw [sumN, sumN, ih, z197 (by omega)]
      by_cases h : n = i
      · subst h
        rw [if_neg (Nat.lt_irrefl _), if_pos (Nat.lt_succ_self _), if_pos rfl]
        split <;> omega
      · rw [if_neg h]
        by_cases h2 : i < n
        · simp only [if_pos h2, if_pos (show i < n + 1 by omega)]
          rw [Int.add_right_comm]
        · simp only [if_neg h2, if_neg (show ¬ i < n + 1 by omega), Int.add_zero]
  rw [wOf, key, if_pos hi]
  rfl
theorem takeStep_w {k : Kitchen} {good : Nat} {q : Int → Bool} {a : List Int × Int} {i : Nat} (hi : i < k.batches.length) (hl : a.1.length = k.batches.length) :
    wOf k q (takeStep k good a i).1 = wOf k q a.1 - if q good then a.2 - (takeStep k good a i).2 else 0 := by
  unfold takeStep
  split
  · rename_i hg
    dsimp only
    rw [wOf_set hi hl, hg]
    split <;> omega
  · split <;> omega
theorem takeG_w {k : Kitchen} {good : Nat} {q : Int → Bool} : ∀ (o : List Nat) {a : List Int × Int}, (∀ x ∈ o, x < k.batches.length) → a.1.length = k.batches.length →
    wOf k q (o.foldl (takeStep k good) a).1 = wOf k q a.1 - if q good then a.2 - (o.foldl (takeStep k good) a).2 else 0
  | [], a, _, _ => by simp
  | i :: o, a, ho, hl => by
    have hlen : (takeStep k good a i).1.length = k.batches.length := by
      unfold takeStep
      split
      · simpa using hl
      · exact hl
    rw [List.foldl_cons, takeG_w o (fun x hx => ho x (by simp [hx])) hlen, takeStep_w (ho i (by simp)) hl]
    split <;> omega
theorem takeG_le {k : Kitchen} {good : Nat} : ∀ (o : List Nat) {a : List Int × Int}, (∀ x ∈ o, x < k.batches.length) → a.1.length = k.batches.length → AmtOk a.1 → 0 ≤ a.2 → ∀ j : Nat, getI (o.foldl (takeStep k good) a).1 (j : Int) ≤ getI a.1 (j : Int)
  | [], a, _, _, _, _, j => Int.le_refl _
  | i :: o, a, ho, hl, hok, hm, j => by
    obtain ⟨h1, h2, h3, h4⟩ := z102 (k := k) (good := good) (i := i) hok hm
    have := takeG_le (good := good) o (a := takeStep k good a i) (fun x hx => ho x (by simp [hx])) (by rw [h2, hl]) h1 h3 j
    rw [List.foldl_cons]
    refine Int.le_trans this ?_
    unfold takeStep
    split
    · dsimp only
      rw [z197 (by rw [hl]; exact ho i (by simp))]
      split
      · rename_i e
        subst e
        have := (hok.get (j : Int)).1
        omega
      · exact Int.le_refl _
    · exact Int.le_refl _
theorem needs_get {needs : List Int} (hn : ∀ x ∈ needs, 0 ≤ x) (g : Nat) : 0 ≤ getI needs (g : Int) := by
  unfold getI List.getD
  cases hy : needs[((g : Int)).toNat]? with
  | none => simp
  | some y => exact hn y (List.mem_of_getElem? hy)
theorem takeTo_w {k : Kitchen} {o : List Nat} {needs l : List Int} (ho : ∀ x ∈ o, x < k.batches.length) (hl : l.length = k.batches.length) (h : AmtOk l) (hn : ∀ x ∈ needs, 0 ≤ x) : ∀ (G : Nat) (c : List Int), takeTo k o needs l G = some c →
    (∀ q : Int → Bool, wOf k q c = wOf k q l - sumN (fun g => if q (g : Int) then getI needs (g : Int) else 0) G) ∧ ∀ j : Nat, getI c (j : Int) ≤ getI l (j : Int)
  | 0, c, hc => by cases hc; exact ⟨fun q => by simp [sumN], fun j => Int.le_refl _⟩
  | G + 1, c, hc => by
    rw [takeTo] at hc
    cases hx : takeTo k o needs l G with
    | none => rw [hx] at hc; cases hc
    | some d =>
      rw [hx] at hc
      dsimp only at hc
      split at hc
      · cases hc
      · rename_i hz
        cases hc
        obtain ⟨d1, d2⟩ := z113 h hn G d hx
        obtain ⟨w1, w2⟩ := takeTo_w ho hl h hn G d hx
        have hng := needs_get hn G
        obtain ⟨k1, k2, k3, k4⟩ := z246 (k := k) (good := G) o (a := (d, getI needs (G : Int))) d1 hng
        have hm : (o.foldl (takeStep k G) (d, getI needs (G : Int))).2 = 0 := by
          have : ¬ (o.foldl (takeStep k G) (d, getI needs (G : Int))).2 > 0 := hz
          omega
        refine ⟨fun q => ?_, fun j => Int.le_trans (takeG_le o ho (by rw [d2, hl]) d1 hng j) (w2 j)⟩
        rw [takeG, takeG_w o ho (by rw [d2, hl]), w1 q, hm, sumN]
        dsimp only
        split <;> omega
theorem clrTo_w2 {k : Kitchen} {day : Int} {l : List Int} {w : Int} (hl : l.length = k.batches.length) (ha : AmtOk l) : ∀ j, j ≤ k.batches.length →
    (wOf k (fun _ => true) (clrTo k day l w j).1 + (clrTo k day l w j).2 = wOf k (fun _ => true) l + w) ∧ (∀ q, wOf k q (clrTo k day l w j).1 ≤ wOf k q l) ∧ (∀ i : Nat, getI (clrTo k day l w j).1 (i : Int) ≤ getI l (i : Int)) ∧
      (∀ i : Nat, i < j → (batAt k i).last < day → getI (clrTo k day l w j).1 (i : Int) = 0) ∧ (∀ i : Nat, i < k.batches.length → ¬ (batAt k i).last < day → getI (clrTo k day l w j).1 (i : Int) = getI l (i : Int))
  | 0, _ => ⟨rfl, fun q => Int.le_refl _, fun i => Int.le_refl _, fun i h => by omega, fun _ _ _ => rfl⟩
  | j + 1, hj => by
    obtain ⟨h1, h2, h3, h4, h5⟩ := clrTo_w2 (day := day) (w := w) hl ha j (by omega)
    have hlj := z54 k day l w j
    obtain ⟨k1, k2, k3⟩ := z63 (k := k) (day := day) (w := w) ha j
    rw [clrTo]
    split
    · rename_i hlast
      have hg := k1.get (j : Int)
      dsimp only
      refine ⟨?_, fun q => ?_, fun i => ?_, fun i hi hlt => ?_, fun i hi hnl => ?_⟩
      · rw [wOf_set (by omega) (by omega), if_pos rfl]
        omega
      · rw [wOf_set (by omega) (by omega)]
        have := h2 q
        split <;> omega
      · rw [z197 (by omega)]
        split
        · rename_i e
          subst e
          exact (ha.get _).1
        · exact h3 i
      · rw [z197 (by omega)]
        split
        · rfl
        · exact h4 i (by omega) hlt
      · rw [z197 (by omega)]
        split
        · rename_i e
          subst e
          exact absurd hlast hnl
        · exact h5 i hi hnl
    · rename_i hlast
      refine ⟨h1, h2, h3, fun i hi hlt => ?_, h5⟩
      by_cases e : i = j
      · subst e; exact absurd hlt hlast
      · exact h4 i (by omega) hlt
theorem needD_at {k : Kitchen} {M : List (List Int)} {cnt : Nat → Nat → Int} {d g : Nat} (hg : g < k.allerg.length) : getI (needD k M cnt d) (g : Int) = needG k (M.getD d []) (cnt d) g (M.getD d []).length := by
  rw [z253, needD, needL, List.getD_eq_getElem?_getD, List.getElem?_map, List.getElem?_range hg]
  rfl
theorem z250 (k : Kitchen) (M : List (List Int)) (cnt : Nat → Nat → Int) : ∀ n, lastD k M cnt n ≤ n
  | 0 => Nat.le_refl _
  | n + 1 => by
    rw [lastD]
    split
    · exact Nat.le_refl _
    · exact Nat.le_succ_of_le (z250 k M cnt n)
theorem lastD_some (k : Kitchen) (M : List (List Int)) (cnt : Nat → Nat → Int) : ∀ n, (runSt k M cnt (lastD k M cnt n)).isSome = true
  | 0 => rfl
  | n + 1 => by
    rw [lastD]
    split
    · assumption
    · exact lastD_some k M cnt n
structure Kept (k : Kitchen) (M : List (List Int)) (cnt : Nat → Nat → Int) (d : Nat) (a : List Int × Int) : Prop where
  total : wOf k (fun _ => true) (amtK k) = wOf k (fun _ => true) a.1 + a.2 + sumN (fun e => sumN (fun g => getI (needD k M cnt e) (g : Int)) k.allerg.length) d
  good : ∀ g : Nat, g < k.allerg.length → wOf k (fun x => decide (x = (g : Int))) a.1 + sumN (fun e => getI (needD k M cnt e) (g : Int)) d ≤ wOf k (fun x => decide (x = (g : Int))) (amtK k)
  le : ∀ i : Nat, getI a.1 (i : Int) ≤ getI (amtK k) (i : Int)
  dead : ∀ i : Nat, i < k.batches.length → (batAt k i).last < (d : Int) - 1 → getI a.1 (i : Int) ≤ 0
theorem Kept.clr {k : Kitchen} {M : List (List Int)} {cnt : Nat → Nat → Int} {d : Nat} {a : List Int × Int} (h : Kept k M cnt d a) (hl : a.1.length = k.batches.length) (ha : AmtOk a.1) (e : Nat) : Kept k M cnt d (clrD k e a) := by
  obtain ⟨h1, h2, h3, h4, h5⟩ := clrTo_w2 (day := (e : Int)) (w := a.2) hl ha k.batches.length (Nat.le_refl _)
  refine ⟨?_, fun g hg => ?_, fun i => Int.le_trans (h3 i) (h.le i), fun i hi hd => Int.le_trans (h3 i) (h.dead i hi hd)⟩
  · have := h.total
    unfold clrD
    omega
  · have := h.good g hg
    have := h2 fun x => decide (x = (g : Int))
    unfold clrD
    omega
theorem sumN_one (f : Nat → Int) (g : Nat) : ∀ n, sumN (fun i => if (decide ((i : Int) = (g : Int))) = true then f i else 0) n = if g < n then f g else 0
  | 0 => by simp [sumN]
  | n + 1 => by
    rw [sumN, sumN_one f g n]
    by_cases h : n = g
    · subst h; simp
    · have : ¬ (decide ((n : Int) = (g : Int)) = true) := by simpa using (show ¬ ((n : Int) = (g : Int)) by omega)
      rw [if_neg this]
      by_cases h2 : g < n
      · rw [if_pos h2, if_pos (by omega)]; omega
      · rw [if_neg h2, if_neg (by omega)]; rfl
theorem runSt_kept {k : Kitchen} (hg : KitGood k) {M : List (List Int)} (hM : shapedB (menuB k) M k.days = true) {cnt : Nat → Nat → Int} (hc : CntOk k cnt) : ∀ (d : Nat) a, d ≤ M.length → runSt k M cnt d = some a → Kept k M cnt d a
  | 0, a, _, h => by
    cases h
    refine ⟨by simp [sumN], fun g _ => by simp [sumN], fun i => Int.le_refl _, fun i hi hd => ?_⟩
    have := (hg.batch (batAt k i) (by
      rw [batAt, List.getD, List.getElem?_eq_getElem hi]; exact List.getElem_mem hi)).2.2.1
    simp at hd
    omega
  | d + 1, a, hd, h => by
    rw [runSt] at h
    cases hx : runSt k M cnt d with
    | none => rw [hx] at h; cases h
    | some b =>
      rw [hx] at h
      dsimp only at h
      obtain ⟨r1, r2, r3, r4⟩ := z247 hg hM hc d b (by omega) hx
      obtain ⟨l, hl, rfl⟩ := Option.map_eq_some_iff.1 h
      obtain ⟨r, hr⟩ : ∃ r, M[d]? = some r := ⟨_, List.getElem?_eq_getElem (by omega)⟩
      obtain ⟨_, _, hdo⟩ := z202 hg hM hc hr
      have hnd : needD k M cnt d = needL k r (cnt d) := by rw [needD, List.getD, hr]; rfl
      have hn0 : ∀ x ∈ needD k M cnt d, 0 ≤ x := fun x hx => by rw [hnd] at hx; exact (z75 hg hdo x hx).1
      have kb := (runSt_kept hg hM hc d b (by omega) hx).clr r2 r1 d
      obtain ⟨c1, c2, c3⟩ := z63 (k := k) (day := (d : Int)) (w := b.2) r1 k.batches.length
      have c4 := z54 k (d : Int) b.1 b.2 k.batches.length
      obtain ⟨_, _, _, h4, _⟩ := clrTo_w2 (day := (d : Int)) (w := b.2) r2 r1 k.batches.length (Nat.le_refl _)
      obtain ⟨w1, w2⟩ := takeTo_w (k := k) (o := ordK k) (fun x hx => z129 hx) (by show (clrD k d b).1.length = _; rw [clrD, c4, r2]) c1 hn0 k.allerg.length l hl
      refine ⟨?_, fun g hgl => ?_, fun i => Int.le_trans (w2 i) (kb.le i), fun i hi hlast => ?_⟩
      · have e1 := kb.total
        have e2 := w1 fun _ => true
        rw [sumN]
        have e3 : wOf k (fun _ => true) l = wOf k (fun _ => true) (clrD k d b).1 - sumN (fun g => getI (needD k M cnt d) (g : Int)) k.allerg.length := by
          rw [e2]
          congr 1
        dsimp only
        omega
      · have e1 := kb.good g hgl
        have e2 := w1 fun x => decide (x = (g : Int))
        rw [sumN_one (fun g => getI (needD k M cnt d) (g : Int)), if_pos hgl] at e2
        rw [sumN]
        have e4 : (clrTo k (d : Int) b.1 b.2 k.batches.length).1 = (clrD k d b).1 := rfl
        rw [e4] at e2
        dsimp only at e2 ⊢
        omega
      · have e := h4 i hi (by push_cast at hlast; omega)
        have := w2 i
        have e3 : getI (clrD k d b).1 (i : Int) = 0 := e
        dsimp only
        omega
theorem endSt_kept {k : Kitchen} (hg : KitGood k) {M : List (List Int)} (hM : shapedB (menuB k) M k.days = true) {cnt : Nat → Nat → Int} (hc : CntOk k cnt) :
    Kept k M cnt (lastD k M cnt M.length) (endSt k M cnt) ∧ AmtOk (endSt k M cnt).1 ∧ (endSt k M cnt).1.length = k.batches.length ∧ 0 ≤ (endSt k M cnt).2 ∧ (endSt k M cnt).2 ≤ 100000000 := by
  have hle := z250 k M cnt M.length
  obtain ⟨a, ha⟩ := Option.isSome_iff_exists.1 (lastD_some k M cnt M.length)
  have hk := runSt_kept hg hM hc _ a hle ha
  obtain ⟨r1, r2, r3, r4⟩ := z247 hg hM hc _ a hle ha
  have hMl := z52 hM
  have hdy := hg.days
  have hbl := hg.batches
  have e : endSt k M cnt = if lastD k M cnt M.length < M.length then clrD k (lastD k M cnt M.length) a else a := by
    rw [endSt, ha]
    rfl
  rw [e]
  split
  · obtain ⟨c1, c2, c3⟩ := z63 (k := k) (day := (lastD k M cnt M.length : Int)) (w := a.2) r1 k.batches.length
    refine ⟨hk.clr r2 r1 _, c1, ?_, ?_, ?_⟩
    · rw [clrD, z54, r2]
    · show 0 ≤ (clrTo k _ a.1 a.2 k.batches.length).2
      omega
    · show (clrTo k _ a.1 a.2 k.batches.length).2 ≤ _
      omega
  · exact ⟨hk, r1, r2, r3, by omega⟩
end Go.Ab
namespace Go.Ab
open Go.RowKit Go.Proofs
set_option maxHeartbeats 16000000
set_option maxRecDepth 20000
attribute [local irreducible] WalkL Walk
theorem amt_at {k : Kitchen} {i : Nat} (h : i < k.batches.length) : getI (amtK k) (i : Int) = (batAt k i).amount := by
  rw [z253, amtK, List.getD_eq_getElem?_getD, List.getElem?_map, batAt, List.getD_eq_getElem?_getD, List.getElem?_eq_getElem h]
  rfl
theorem bat_ok {k : Kitchen} (hg : KitGood k) {i : Nat} (h : i < k.batches.length) : (0 ≤ (batAt k i).good ∧ (batAt k i).good < k.allerg.length) ∧ (0 ≤ (batAt k i).amount ∧ (batAt k i).amount ≤ 1000000) ∧ (0 ≤ (batAt k i).last ∧ (batAt k i).last ≤ 30) := by
  have : batAt k i ∈ k.batches := by rw [batAt, List.getD_eq_getElem?_getD, List.getElem?_eq_getElem h]; exact List.getElem_mem h
  exact hg.batch _ this
theorem rows_getD {M : List (List Int)} {j : Nat} (h : j < M.length) : (listRows M)[j]? = some [.sl (intRows (M.getD j []))] := by
  have e : M.getD j [] = M[j] := by rw [List.getD_eq_getElem?_getD, List.getElem?_eq_getElem h]; rfl
  rw [e]
  exact z48 (List.getElem?_eq_getElem h)
structure KeptN (k : Kitchen) (G n D : Nat) (A L : Nat → Int) (W : Int) (nd : Nat → Nat → Int) : Prop where
  amt : ∀ i, i < n → 0 ≤ A i ∧ A i ≤ 1000000
  left : ∀ i, i < n → 0 ≤ L i ∧ L i ≤ A i
  waste : 0 ≤ W ∧ W ≤ 100000000
  need : ∀ d g, d < D → g < G → 0 ≤ nd d g ∧ nd d g ≤ 1500000
  total : sumN A n = sumN L n + W + sumN (fun g => sumN (fun d => nd d g) D) G
  good : ∀ g, g < G → sumN (fun d => nd d g) D ≤ sumN (fun i => if (batAt k i).good = (g : Int) then A i - L i else 0) n
  dead : ∀ i, i < n → D = k.days.length → (batAt k i).last < (D : Int) - 1 → L i ≤ 0
theorem kept_n {k : Kitchen} (hg : KitGood k) {M : List (List Int)} (hM : shapedB (menuB k) M k.days = true) {C : List (List Int)} (hC : shapedB countB C k.days = true) :
    KeptN k k.allerg.length k.batches.length (lastD k M (cntOf C) M.length) (fun i => (batAt k i).amount) (fun i => getI (endSt k M (cntOf C)).1 (i : Int)) (endSt k M (cntOf C)).2 (fun d g => getI (needD k M (cntOf C) d) (g : Int)) := by
  have hc := cnt_ok hg hC
  obtain ⟨h1, h2, h3, h4, h5⟩ := endSt_kept hg hM hc
  have hle := z250 k M (cntOf C) M.length
  have hw : ∀ (q : Int → Bool) (l : List Int), wOf k q l = sumN (fun i => if q (batAt k i).good then getI l (i : Int) else 0) k.batches.length := fun _ _ => rfl
  refine ⟨fun i hi => (bat_ok hg hi).2.1, fun i hi => ⟨(h2.get _).1, ?_⟩, ⟨h4, h5⟩, fun d g hd hgl => ?_, ?_, fun g hgl => ?_, fun i hi he hl => h1.dead i hi hl⟩
  · have := h1.le i
    rwa [amt_at hi] at this
  · obtain ⟨r, hr⟩ : ∃ r, M[d]? = some r := ⟨_, List.getElem?_eq_getElem (by omega)⟩
    obtain ⟨_, _, hdo⟩ := z202 hg hM hc hr
    rw [needD_at hgl, List.getD_eq_getElem?_getD, hr, Option.getD_some]
    have := z120 hg hdo g r.length (Nat.le_refl _)
    have := hdo.len
    omega
  · have e := h1.total
    rw [hw, hw] at e
    rw [← sumN_swap]
    have e1 : sumN (fun i => if true = true then getI (amtK k) (i : Int) else 0) k.batches.length = sumN (fun i => (batAt k i).amount) k.batches.length := z114 _ fun i hi => by rw [if_pos rfl, amt_at hi]
    have e2 : sumN (fun i => if true = true then getI (endSt k M (cntOf C)).1 (i : Int) else 0) k.batches.length = sumN (fun i => getI (endSt k M (cntOf C)).1 (i : Int)) k.batches.length := z114 _ fun i hi => by rw [if_pos rfl]
    rw [e1, e2] at e
    exact e
  · have e := h1.good g hgl
    rw [hw, hw] at e
    have e3 : sumN (fun i => if (batAt k i).good = (g : Int) then (batAt k i).amount - getI (endSt k M (cntOf C)).1 (i : Int) else 0) k.batches.length =
        sumN (fun i => if decide ((batAt k i).good = (g : Int)) = true then getI (amtK k) (i : Int) else 0) k.batches.length - sumN (fun i => if decide ((batAt k i).good = (g : Int)) = true then getI (endSt k M (cntOf C)).1 (i : Int) else 0) k.batches.length := by
      rw [← sumN_sub]
      refine z114 _ fun i hi => ?_
      rw [amt_at hi]
      by_cases hq : (batAt k i).good = (g : Int)
      · rw [if_pos hq, if_pos (decide_eq_true hq), if_pos (decide_eq_true hq)]
      · rw [if_neg hq, if_neg (by simpa using hq), if_neg (by simpa using hq)]; rfl
    omega
theorem zf4 (k : Kitchen) (M C : List (List Int)) (no : Int) (hs : KitSmall k) (hM : M.length < 2 ^ 30) (hMr : ∀ r ∈ M, r.length < 2 ^ 30) (hC : C.length < 2 ^ 30) (hCr : ∀ r ∈ C, r.length < 2 ^ 30) :
    Fn Try.prog 4 [.agg k.cells, .agg [.sl (listRows M), .sl (listRows C), .i no]] (.bool true) := by
  have h22 := zf22 k hs
  have h13 := zf13
  have h12a := zf12 M hM
  have h12b := zf12 C hC
  cases q1 : readyB k with
  | false =>
    rw [q1] at h22
    rw [Kitchen.cells] at h22 ⊢
    refine z31 217 Try.call4 Try.func4 rfl (by decide) fun J => ?_
    simp (maxSteps := 4000000) only [go_sem, St.start, Try.ntmps4, Try.results4]
    repeat (first | refine z25 rfl ?_ | refine z24 rfl ?_ | refine z21 ?_ | refine z16 ?_ | refine z14 ?_ | (refine z12 fun K hK => ?_; simp (maxSteps := 4000000) only [go_sem]; (repeat (first | (refine ⟨_, .lent (hf := h22) (hd := rfl) (hr := rfl), ?_⟩; simp (maxSteps := 4000000) only [go_sem]) | (refine ⟨_, .lent (hf := h13) (hd := rfl) (hr := rfl), ?_⟩; simp (maxSteps := 4000000) only [go_sem]) | (refine ⟨_, .given (hf := h22) (hd := rfl) (ha := rfl), ?_⟩; simp (maxSteps := 4000000) only [go_sem]) | (refine ⟨_, .given (hf := h13) (hd := rfl) (ha := rfl), ?_⟩; simp (maxSteps := 4000000) only [go_sem]))); refine hK _ ?_; clear hK K) | refine z20 ?_ | refine z22 ?_ | refine z17 ?_ | refine z15 ?_ | refine z13 rfl ?_ | refine z19 ?_ | refine z10 ?_ | refine z23 ?_ | refine z18 ?_ | refine z11 ?_)
    simp (maxSteps := 4000000) only [go_sem]
  | true =>
  rw [q1] at h22
  cases q2 : farRows M with
  | true =>
    rw [q2] at h12a
    rw [Kitchen.cells] at h22 ⊢
    refine z31 217 Try.call4 Try.func4 rfl (by decide) fun J => ?_
    simp (maxSteps := 4000000) only [go_sem, St.start, Try.ntmps4, Try.results4]
    repeat (first | refine z25 rfl ?_ | refine z24 rfl ?_ | refine z21 ?_ | refine z16 ?_ | refine z14 ?_ | (refine z12 fun K hK => ?_; simp (maxSteps := 4000000) only [go_sem]; (repeat (first | (refine ⟨_, .lent (hf := h22) (hd := rfl) (hr := rfl), ?_⟩; simp (maxSteps := 4000000) only [go_sem]) | (refine ⟨_, .lent (hf := h12a) (hd := rfl) (hr := rfl), ?_⟩; simp (maxSteps := 4000000) only [go_sem]) | (refine ⟨_, .lent (hf := h13) (hd := rfl) (hr := rfl), ?_⟩; simp (maxSteps := 4000000) only [go_sem]) | (refine ⟨_, .given (hf := h22) (hd := rfl) (ha := rfl), ?_⟩; simp (maxSteps := 4000000) only [go_sem]) | (refine ⟨_, .given (hf := h12a) (hd := rfl) (ha := rfl), ?_⟩; simp (maxSteps := 4000000) only [go_sem]) | (refine ⟨_, .given (hf := h13) (hd := rfl) (ha := rfl), ?_⟩; simp (maxSteps := 4000000) only [go_sem]))); refine hK _ ?_; clear hK K) | refine z20 ?_ | refine z22 ?_ | refine z17 ?_ | refine z15 ?_ | refine z13 rfl ?_ | refine z19 ?_ | refine z10 ?_ | refine z23 ?_ | refine z18 ?_ | refine z11 ?_)
    simp (maxSteps := 4000000) only [go_sem]
  | false =>
  rw [q2] at h12a
  cases q3 : farRows C with
  | true =>
    rw [q3] at h12b
    rw [Kitchen.cells] at h22 ⊢
    refine z31 217 Try.call4 Try.func4 rfl (by decide) fun J => ?_
    simp (maxSteps := 4000000) only [go_sem, St.start, Try.ntmps4, Try.results4]
    repeat (first | refine z25 rfl ?_ | refine z24 rfl ?_ | refine z21 ?_ | refine z16 ?_ | refine z14 ?_ | (refine z12 fun K hK => ?_; simp (maxSteps := 4000000) only [go_sem]; (repeat (first | (refine ⟨_, .lent (hf := h22) (hd := rfl) (hr := rfl), ?_⟩; simp (maxSteps := 4000000) only [go_sem]) | (refine ⟨_, .lent (hf := h12a) (hd := rfl) (hr := rfl), ?_⟩; simp (maxSteps := 4000000) only [go_sem]) | (refine ⟨_, .lent (hf := h12b) (hd := rfl) (hr := rfl), ?_⟩; simp (maxSteps := 4000000) only [go_sem]) | (refine ⟨_, .lent (hf := h13) (hd := rfl) (hr := rfl), ?_⟩; simp (maxSteps := 4000000) only [go_sem]) | (refine ⟨_, .given (hf := h22) (hd := rfl) (ha := rfl), ?_⟩; simp (maxSteps := 4000000) only [go_sem]) | (refine ⟨_, .given (hf := h12a) (hd := rfl) (ha := rfl), ?_⟩; simp (maxSteps := 4000000) only [go_sem]) | (refine ⟨_, .given (hf := h12b) (hd := rfl) (ha := rfl), ?_⟩; simp (maxSteps := 4000000) only [go_sem]) | (refine ⟨_, .given (hf := h13) (hd := rfl) (ha := rfl), ?_⟩; simp (maxSteps := 4000000) only [go_sem]))); refine hK _ ?_; clear hK K) | refine z20 ?_ | refine z22 ?_ | refine z17 ?_ | refine z15 ?_ | refine z13 rfl ?_ | refine z19 ?_ | refine z10 ?_ | refine z23 ?_ | refine z18 ?_ | refine z11 ?_)
    simp (maxSteps := 4000000) only [go_sem]
  | false =>
  rw [q3] at h12b
  have hr := q1
  simp only [readyB, Bool.and_eq_true, beq_iff_eq] at hr
  have h0 := hr.2
  have hg : KitGood k := z193 (z194.1 h0)
  have h23 := zf23 k hg M hM hMr
  have h24 := zf24 k hg C hC hCr
  cases q4 : shapedB (menuB k) M k.days with
  | false =>
    rw [q4] at h23
    rw [Kitchen.cells] at h22 h23 ⊢
    refine z31 217 Try.call4 Try.func4 rfl (by decide) fun J => ?_
    simp (maxSteps := 4000000) only [go_sem, St.start, Try.ntmps4, Try.results4]
    repeat (first | refine z25 rfl ?_ | refine z24 rfl ?_ | refine z21 ?_ | refine z16 ?_ | refine z14 ?_ | (refine z12 fun K hK => ?_; simp (maxSteps := 4000000) only [go_sem]; (repeat (first | (refine ⟨_, .lent (hf := h22) (hd := rfl) (hr := rfl), ?_⟩; simp (maxSteps := 4000000) only [go_sem]) | (refine ⟨_, .lent (hf := h12a) (hd := rfl) (hr := rfl), ?_⟩; simp (maxSteps := 4000000) only [go_sem]) | (refine ⟨_, .lent (hf := h12b) (hd := rfl) (hr := rfl), ?_⟩; simp (maxSteps := 4000000) only [go_sem]) | (refine ⟨_, .lent (hf := h23) (hd := rfl) (hr := rfl), ?_⟩; simp (maxSteps := 4000000) only [go_sem]) | (refine ⟨_, .lent (hf := h13) (hd := rfl) (hr := rfl), ?_⟩; simp (maxSteps := 4000000) only [go_sem]) | (refine ⟨_, .given (hf := h22) (hd := rfl) (ha := rfl), ?_⟩; simp (maxSteps := 4000000) only [go_sem]) | (refine ⟨_, .given (hf := h12a) (hd := rfl) (ha := rfl), ?_⟩; simp (maxSteps := 4000000) only [go_sem]) | (refine ⟨_, .given (hf := h12b) (hd := rfl) (ha := rfl), ?_⟩; simp (maxSteps := 4000000) only [go_sem]) | (refine ⟨_, .given (hf := h23) (hd := rfl) (ha := rfl), ?_⟩; simp (maxSteps := 4000000) only [go_sem]) | (refine ⟨_, .given (hf := h13) (hd := rfl) (ha := rfl), ?_⟩; simp (maxSteps := 4000000) only [go_sem]))); refine hK _ ?_; clear hK K) | refine z20 ?_ | refine z22 ?_ | refine z17 ?_ | refine z15 ?_ | refine z13 rfl ?_ | refine z19 ?_ | refine z10 ?_ | refine z23 ?_ | refine z18 ?_ | refine z11 ?_)
    simp (maxSteps := 4000000) only [go_sem]
  | true =>
  rw [q4] at h23
  cases q5 : shapedB countB C k.days with
  | false =>
    rw [q5] at h24
    rw [Kitchen.cells] at h22 h23 h24 ⊢
    refine z31 217 Try.call4 Try.func4 rfl (by decide) fun J => ?_
    simp (maxSteps := 4000000) only [go_sem, St.start, Try.ntmps4, Try.results4]
    repeat (first | refine z25 rfl ?_ | refine z24 rfl ?_ | refine z21 ?_ | refine z16 ?_ | refine z14 ?_ | (refine z12 fun K hK => ?_; simp (maxSteps := 4000000) only [go_sem]; (repeat (first | (refine ⟨_, .lent (hf := h22) (hd := rfl) (hr := rfl), ?_⟩; simp (maxSteps := 4000000) only [go_sem]) | (refine ⟨_, .lent (hf := h12a) (hd := rfl) (hr := rfl), ?_⟩; simp (maxSteps := 4000000) only [go_sem]) | (refine ⟨_, .lent (hf := h12b) (hd := rfl) (hr := rfl), ?_⟩; simp (maxSteps := 4000000) only [go_sem]) | (refine ⟨_, .lent (hf := h23) (hd := rfl) (hr := rfl), ?_⟩; simp (maxSteps := 4000000) only [go_sem]) | (refine ⟨_, .lent (hf := h24) (hd := rfl) (hr := rfl), ?_⟩; simp (maxSteps := 4000000) only [go_sem]) | (refine ⟨_, .lent (hf := h13) (hd := rfl) (hr := rfl), ?_⟩; simp (maxSteps := 4000000) only [go_sem]) | (refine ⟨_, .given (hf := h22) (hd := rfl) (ha := rfl), ?_⟩; simp (maxSteps := 4000000) only [go_sem]) | (refine ⟨_, .given (hf := h12a) (hd := rfl) (ha := rfl), ?_⟩; simp (maxSteps := 4000000) only [go_sem]) | (refine ⟨_, .given (hf := h12b) (hd := rfl) (ha := rfl), ?_⟩; simp (maxSteps := 4000000) only [go_sem]) | (refine ⟨_, .given (hf := h23) (hd := rfl) (ha := rfl), ?_⟩; simp (maxSteps := 4000000) only [go_sem]) | (refine ⟨_, .given (hf := h24) (hd := rfl) (ha := rfl), ?_⟩; simp (maxSteps := 4000000) only [go_sem]) | (refine ⟨_, .given (hf := h13) (hd := rfl) (ha := rfl), ?_⟩; simp (maxSteps := 4000000) only [go_sem]))); refine hK _ ?_; clear hK K) | refine z20 ?_ | refine z22 ?_ | refine z17 ?_ | refine z15 ?_ | refine z13 rfl ?_ | refine z19 ?_ | refine z10 ?_ | refine z23 ?_ | refine z18 ?_ | refine z11 ?_)
    simp (maxSteps := 4000000) only [go_sem]
  | true =>
  rw [q5] at h24
  have h25 := zf25 k M C hs hM hMr hC hCr
  have hop : openK k M = 0 := by rw [openK, if_pos h0, if_pos q4]
  have hce : cookE k M C = 0 := by rw [cookE, if_pos hop, if_pos q5]
  rw [cookP, if_pos hce] at h25
  have hkn := kept_n hg q4 q5
  obtain ⟨_, _, hELl, _, _⟩ := endSt_kept hg q4 (cnt_ok hg q5)
  have hle := z250 k M (cntOf C) M.length
  have hMl := z52 q4
  have hCl := z52 q5
  have hbl := hg.batches
  have hgo := hg.goods
  have hdy := hg.days
  have h26 : ∀ d g : Nat, d < k.days.length → g < k.allerg.length → Fn Try.prog 26 [.agg k.cells, .sl (intRows (M.getD d [])), .sl (intRows (C.getD d [])), .i (g : Int)] (.i (getI (needD k M (cntOf C) d) (g : Int))) := fun d g hd hgl => by
    obtain ⟨r, hr⟩ : ∃ r, M[d]? = some r := ⟨_, List.getElem?_eq_getElem (by omega)⟩
    obtain ⟨_, hrl, hdo⟩ := z202 hg q4 (cnt_ok hg q5) hr
    obtain ⟨c, hcd⟩ : ∃ c, C[d]? = some c := ⟨_, List.getElem?_eq_getElem (by omega)⟩
    obtain ⟨x, hx, hxo⟩ := z145 q5 hcd
    have e : k.days.getD d [] = x := by rw [List.getD, hx]; rfl
    have hcl := z73 hxo
    rw [needD_at hgl, List.getD_eq_getElem?_getD, hr, Option.getD_some, List.getD_eq_getElem?_getD, hcd, Option.getD_some]
    have ec : cntOf C d = fun (g : Nat) => getI c (g : Int) := by funext g; rw [cntOf, List.getD_eq_getElem?_getD, hcd]; rfl
    rw [ec] at hdo ⊢
    exact zf26 k hg r c g hgl hdo (by rw [hrl, e, hcl])
  obtain ⟨D, hD⟩ : ∃ D, D = lastD k M (cntOf C) M.length := ⟨_, rfl⟩
  obtain ⟨⟨EL, EW⟩, hE⟩ : ∃ e, e = endSt k M (cntOf C) := ⟨_, rfl⟩
  obtain ⟨nd, hnd⟩ : ∃ nd : Nat → Nat → Int, nd = fun (d g : Nat) => getI (needD k M (cntOf C) d) (g : Int) := ⟨_, rfl⟩
  have h26 : ∀ d g : Nat, d < k.days.length → g < k.allerg.length → Fn Try.prog 26 [.agg k.cells, .sl (intRows (M.getD d [])), .sl (intRows (C.getD d [])), .i (g : Int)] (.i (nd d g)) := by rw [hnd]; exact h26
  rw [← hD, ← hE, ← hnd] at hkn
  rw [← hD] at hle h25
  rw [← hE] at h25 hELl
  dsimp only at h25 hkn hELl
  obtain ⟨kA, kL, kW, kN, kT, kG, kD⟩ := hkn
  obtain ⟨A, hA⟩ : ∃ A : Nat → Int, A = fun i => (batAt k i).amount := ⟨_, rfl⟩
  obtain ⟨Lf, hLf⟩ : ∃ L : Nat → Int, L = fun (i : Nat) => getI EL (i : Int) := ⟨_, rfl⟩
  have kA : ∀ i, i < k.batches.length → 0 ≤ A i ∧ A i ≤ 1000000 := by rw [hA]; exact kA
  have kL : ∀ i, i < k.batches.length → 0 ≤ Lf i ∧ Lf i ≤ A i := by rw [hA, hLf]; exact kL
  have kT : sumN A k.batches.length = sumN Lf k.batches.length + EW + sumN (fun g => sumN (fun d => nd d g) D) k.allerg.length := by rw [hA, hLf]; exact kT
  have kG : ∀ g, g < k.allerg.length → sumN (fun d => nd d g) D ≤ sumN (fun i => if (batAt k i).good = (g : Int) then A i - Lf i else 0) k.batches.length := by rw [hA, hLf]; exact kG
  have kD : ∀ i, i < k.batches.length → D = k.days.length → (batAt k i).last < (D : Int) - 1 → Lf i ≤ 0 := by rw [hLf]; exact kD
  have hA1 : ∀ i, (batAt k i).amount = A i := fun i => by rw [hA]
  have hL1 : ∀ i : Nat, getI EL (i : Int) = Lf i := fun i => by rw [hLf]
  have q6 : ((k.batches.length : Int) != (k.batches.length : Int)) = false := by simp
  have d7 : decide (EW < 0) = false := decide_eq_false (by omega)
  have d8 : decide ((D : Int) < 0) = false := decide_eq_false (by omega)
  have d9 : decide ((D : Int) > (k.days.length : Int)) = false := decide_eq_false (by omega)
  have sA : ∀ i, i ≤ k.batches.length → 0 ≤ sumN A i ∧ sumN A i ≤ 1000000 * i := fun i hi => ⟨z85 i fun j hj => (kA j (by omega)).1, z209 i fun j hj => (kA j (by omega)).2⟩
  have sL : ∀ i, i ≤ k.batches.length → 0 ≤ sumN Lf i ∧ sumN Lf i ≤ 1000000 * i := fun i hi => ⟨z85 i fun j hj => (kL j (by omega)).1, z209 i fun j hj => by have := kL j (by omega); have := kA j (by omega); omega⟩
  have hD0 : D ≤ k.days.length := by omega
  rw [Kitchen.cells] at h22 h23 h24 h25 h26 ⊢
  refine z31 217 Try.call4 Try.func4 rfl (by decide) fun J => ?_
  simp (maxSteps := 4000000) only [go_sem, St.start, Try.ntmps4, Try.results4]
  repeat (first | refine z25 rfl ?_ | refine z24 rfl ?_ | refine z21 ?_ | refine z16 ?_ | refine z14 ?_ | (refine z12 fun K hK => ?_; simp (maxSteps := 4000000) only [go_sem, hELl, z32, q6, d7, d8, d9]; (repeat (first | (refine ⟨_, .lent (hf := h22) (hd := rfl) (hr := rfl), ?_⟩; simp (maxSteps := 4000000) only [go_sem, hELl, z32, q6, d7, d8, d9]) | (refine ⟨_, .lent (hf := h12a) (hd := rfl) (hr := rfl), ?_⟩; simp (maxSteps := 4000000) only [go_sem, hELl, z32, q6, d7, d8, d9]) | (refine ⟨_, .lent (hf := h12b) (hd := rfl) (hr := rfl), ?_⟩; simp (maxSteps := 4000000) only [go_sem, hELl, z32, q6, d7, d8, d9]) | (refine ⟨_, .lent (hf := h23) (hd := rfl) (hr := rfl), ?_⟩; simp (maxSteps := 4000000) only [go_sem, hELl, z32, q6, d7, d8, d9]) | (refine ⟨_, .lent (hf := h24) (hd := rfl) (hr := rfl), ?_⟩; simp (maxSteps := 4000000) only [go_sem, hELl, z32, q6, d7, d8, d9]) | (refine ⟨_, .lent (hf := h25) (hd := rfl) (hr := rfl), ?_⟩; simp (maxSteps := 4000000) only [go_sem, hELl, z32, q6, d7, d8, d9]) | (refine ⟨_, .given (hf := h22) (hd := rfl) (ha := rfl), ?_⟩; simp (maxSteps := 4000000) only [go_sem, hELl, z32, q6, d7, d8, d9]) | (refine ⟨_, .given (hf := h12a) (hd := rfl) (ha := rfl), ?_⟩; simp (maxSteps := 4000000) only [go_sem, hELl, z32, q6, d7, d8, d9]) | (refine ⟨_, .given (hf := h12b) (hd := rfl) (ha := rfl), ?_⟩; simp (maxSteps := 4000000) only [go_sem, hELl, z32, q6, d7, d8, d9]) | (refine ⟨_, .given (hf := h23) (hd := rfl) (ha := rfl), ?_⟩; simp (maxSteps := 4000000) only [go_sem, hELl, z32, q6, d7, d8, d9]) | (refine ⟨_, .given (hf := h24) (hd := rfl) (ha := rfl), ?_⟩; simp (maxSteps := 4000000) only [go_sem, hELl, z32, q6, d7, d8, d9]) | (refine ⟨_, .given (hf := h25) (hd := rfl) (ha := rfl), ?_⟩; simp (maxSteps := 4000000) only [go_sem, hELl, z32, q6, d7, d8, d9]))); refine hK _ ?_; clear hK K) | refine z20 ?_ | refine z22 ?_ | refine z17 ?_ | refine z15 ?_ | refine z13 rfl ?_ | refine z19 ?_ | refine z10 ?_ | refine z23 ?_ | refine z18 ?_ | refine z11 ?_)
  refine z29 (fun (i : Nat) => [(11, .d (.i (i : Int))), (9, .d (.i (sumN A i))), (10, .d (.i (sumN Lf i)))]) (fun _ => []) (fun i => i ≤ k.batches.length) (fun i => k.batches.length - i) 0 ?_ (Nat.zero_le _) ?_
  · rw [show sumN A 0 = 0 from rfl, show sumN Lf 0 = 0 from rfl]
    simp (maxSteps := 4000000) only [go_sem]
    refine z26 [] ?_ ?_ rfl rfl <;> simp [lessT, lessM, lessB, AV.less]
    all_goals first | done | rfl | trace_state
  · intro i hi
    simp (maxSteps := 4000000) only [go_sem]
    repeat (first | refine z21 ?_ | refine z16 ?_ | refine z14 ?_ | (refine z12 fun K hK => ?_; simp (maxSteps := 4000000) only [go_sem, hELl, z32]; refine hK _ ?_; clear hK K) | refine z20 ?_ | refine z22 ?_ | refine z17 ?_ | refine z15 ?_ | refine z13 rfl ?_ | refine z19 ?_ | refine z10 ?_ | refine z23 ?_ | refine z18 ?_ | refine z11 ?_)
    refine z27 rfl (fun hb => ?_) (fun hb => ?_)
    · have hlt : i < k.batches.length := by simpa using hb
      have hw : IntKind.i64.wrap ((i : Int) + 1) = ((i + 1 : Nat) : Int) := by rw [z30 (by omega)]; simp
      have gb := z169 hlt
      rw [Batch.row, hA1] at gb
      have gL := z34 (l := EL) (i := i) (by omega)
      rw [hL1] at gL
      have hni : ¬ ((i : Int) < 0) := by omega
      have a1 := kA i hlt
      have a2 := kL i hlt
      have a3 := sA i hi
      have a4 := sL i hi
      have d1 : decide (Lf i < 0) = false := decide_eq_false (by omega)
      have d2 : decide (Lf i > A i) = false := decide_eq_false (by omega)
      have w1 : IntKind.i64.wrap (sumN A i + A i) = sumN A (i + 1) := by rw [sumN]; exact z30 (by omega)
      have w2 : IntKind.i64.wrap (sumN Lf i + Lf i) = sumN Lf (i + 1) := by rw [sumN]; exact z30 (by omega)
      have w3 : IntKind.i64.wrap ((D : Int) - 1) = (D : Int) - 1 := z30 (by omega)
      cases q7 : ((D : Int) == (k.days.length : Int)) with
      | false =>
        repeat (first | refine z21 ?_ | refine z16 ?_ | refine z14 ?_ | (refine z12 fun K hK => ?_; simp (maxSteps := 4000000) only [go_sem]; refine hK _ ?_; clear hK K) | refine z20 ?_ | refine z22 ?_ | refine z17 ?_ | refine z15 ?_ | refine z13 rfl ?_ | refine z19 ?_ | refine z10 ?_ | refine z23 ?_ | refine z18 ?_ | refine z11 ?_)
        refine z28 (by kernel_rfl) (by kernel_rfl) fun K hK => ?_
        simp (maxSteps := 4000000) only [go_sem, gb, gL, hni, d1, d2, q7]
        refine ⟨by kernel_rfl, hK _ ?_⟩
        clear hK K
        repeat (first | refine z25 rfl ?_ | refine z24 rfl ?_ | refine z21 ?_ | refine z16 ?_ | refine z14 ?_ | (refine z12 fun K hK => ?_; simp (maxSteps := 4000000) only [go_sem, gb, gL, hni, w1, w2, hw]; refine hK _ ?_; clear hK K) | refine z20 ?_ | refine z22 ?_ | refine z17 ?_ | refine z15 ?_ | refine z13 rfl ?_ | refine z19 ?_ | refine z10 ?_ | refine z23 ?_ | refine z18 ?_ | refine z11 ?_)
        refine ⟨rfl, i + 1, ?_, hlt, by omega⟩
        refine z26 [] ?_ ?_ rfl rfl <;> simp [lessT, lessM, lessB, AV.less]
        all_goals first | done | rfl | trace_state
      | true =>
        by_cases hl2 : (batAt k i).last < (D : Int) - 1
        · have d3 : decide ((batAt k i).last < (D : Int) - 1) = true := decide_eq_true hl2
          have := kD i hlt (by have := beq_iff_eq.1 q7; omega) hl2
          have d4 : decide (Lf i > 0) = false := decide_eq_false (by omega)
          repeat (first | refine z21 ?_ | refine z16 ?_ | refine z14 ?_ | (refine z12 fun K hK => ?_; simp (maxSteps := 4000000) only [go_sem]; refine hK _ ?_; clear hK K) | refine z20 ?_ | refine z22 ?_ | refine z17 ?_ | refine z15 ?_ | refine z13 rfl ?_ | refine z19 ?_ | refine z10 ?_ | refine z23 ?_ | refine z18 ?_ | refine z11 ?_)
          refine z28 (by kernel_rfl) (by kernel_rfl) fun K hK => ?_
          simp (maxSteps := 4000000) only [go_sem, gb, gL, hni, d1, d2, q7, w3, d3, d4]
          refine ⟨by kernel_rfl, hK _ ?_⟩
          clear hK K
          repeat (first | refine z25 rfl ?_ | refine z24 rfl ?_ | refine z21 ?_ | refine z16 ?_ | refine z14 ?_ | (refine z12 fun K hK => ?_; simp (maxSteps := 4000000) only [go_sem, gb, gL, hni, w1, w2, hw]; refine hK _ ?_; clear hK K) | refine z20 ?_ | refine z22 ?_ | refine z17 ?_ | refine z15 ?_ | refine z13 rfl ?_ | refine z19 ?_ | refine z10 ?_ | refine z23 ?_ | refine z18 ?_ | refine z11 ?_)
          refine ⟨rfl, i + 1, ?_, hlt, by omega⟩
          refine z26 [] ?_ ?_ rfl rfl <;> simp [lessT, lessM, lessB, AV.less]
          all_goals first | done | rfl | trace_state
        · have d3 : decide ((batAt k i).last < (D : Int) - 1) = false := decide_eq_false hl2
          repeat (first | refine z21 ?_ | refine z16 ?_ | refine z14 ?_ | (refine z12 fun K hK => ?_; simp (maxSteps := 4000000) only [go_sem]; refine hK _ ?_; clear hK K) | refine z20 ?_ | refine z22 ?_ | refine z17 ?_ | refine z15 ?_ | refine z13 rfl ?_ | refine z19 ?_ | refine z10 ?_ | refine z23 ?_ | refine z18 ?_ | refine z11 ?_)
          refine z28 (by kernel_rfl) (by kernel_rfl) fun K hK => ?_
          simp (maxSteps := 4000000) only [go_sem, gb, gL, hni, d1, d2, q7, w3, d3]
          refine ⟨by kernel_rfl, hK _ ?_⟩
          clear hK K
          repeat (first | refine z25 rfl ?_ | refine z24 rfl ?_ | refine z21 ?_ | refine z16 ?_ | refine z14 ?_ | (refine z12 fun K hK => ?_; simp (maxSteps := 4000000) only [go_sem, gb, gL, hni, w1, w2, hw]; refine hK _ ?_; clear hK K) | refine z20 ?_ | refine z22 ?_ | refine z17 ?_ | refine z15 ?_ | refine z13 rfl ?_ | refine z19 ?_ | refine z10 ?_ | refine z23 ?_ | refine z18 ?_ | refine z11 ?_)
          refine ⟨rfl, i + 1, ?_, hlt, by omega⟩
          refine z26 [] ?_ ?_ rfl rfl <;> simp [lessT, lessM, lessB, AV.less]
          all_goals first | done | rfl | trace_state
    · have he : i = k.batches.length := by (have : ¬ i < k.batches.length := by simpa using hb); omega
      subst he
      obtain ⟨T, hT⟩ : ∃ T : Nat → Nat → Int, T = fun g j => sumN (fun d => nd d g) j := ⟨_, rfl⟩
      obtain ⟨U, hU⟩ : ∃ U : Nat → Nat → Int, U = fun (g j : Nat) => sumN (fun i => if (batAt k i).good = (g : Int) then A i - Lf i else 0) j := ⟨_, rfl⟩
      obtain ⟨S, hS⟩ : ∃ S : Nat → Int, S = sumN (fun g => T g D) := ⟨_, rfl⟩
      have hT0 : ∀ g, T g 0 = 0 := fun g => by rw [hT]; rfl
      have hTs : ∀ g j, T g (j + 1) = T g j + nd j g := fun g j => by rw [hT]; rfl
      have hU0 : ∀ g, U g 0 = 0 := fun g => by rw [hU]; rfl
      have hUs : ∀ g j, U g (j + 1) = U g j + if (batAt k j).good = (g : Int) then A j - Lf j else 0 := fun g j => by rw [hU]; rfl
      have hS0 : S 0 = 0 := by rw [hS]; rfl
      have hSs : ∀ g, S (g + 1) = S g + T g D := fun g => by rw [hS]; rfl
      have kT2 : sumN A k.batches.length = sumN Lf k.batches.length + EW + S k.allerg.length := by rw [hS, hT]; exact kT
      have kG2 : ∀ g, g < k.allerg.length → T g D ≤ U g k.batches.length := by rw [hT, hU]; exact kG
      have rT : ∀ g j, g < k.allerg.length → j ≤ D → 0 ≤ T g j ∧ T g j ≤ 1500000 * j := fun g j hgl hj => by
        rw [hT]
        exact ⟨z85 j fun i hi => (kN i g (by omega) hgl).1, z209 j fun i hi => (kN i g (by omega) hgl).2⟩
      have rU : ∀ g j, j ≤ k.batches.length → 0 ≤ U g j ∧ U g j ≤ 1000000 * j := fun g j hj => by
        rw [hU]
        refine ⟨z85 j fun i hi => ?_, z209 j fun i hi => ?_⟩
        · have := kL i (by omega); split <;> omega
        · have := kL i (by omega); have := kA i (by omega); split <;> omega
      have rS : ∀ g, g ≤ k.allerg.length → 0 ≤ S g ∧ S g ≤ 9000000 * g := fun g hgl => by
        rw [hS]
        refine ⟨z85 g fun i hi => (rT i D (by omega) (Nat.le_refl _)).1, z209 g fun i hi => ?_⟩
        have := rT i D (by omega) (Nat.le_refl _)
        omega
      have sa := sA _ (Nat.le_refl _)
      have sl := sL _ (Nat.le_refl _)
      repeat (first | refine z21 ?_ | refine z16 ?_ | refine z14 ?_ | (refine z12 fun K hK => ?_; simp (maxSteps := 4000000) only [go_sem]; refine hK _ ?_; clear hK K) | refine z20 ?_ | refine z22 ?_ | refine z17 ?_ | refine z15 ?_ | refine z13 rfl ?_ | refine z19 ?_ | refine z10 ?_ | refine z23 ?_ | refine z18 ?_ | refine z11 ?_)
      refine z29 (fun (g : Nat) => [(13, .d (.i (g : Int))), (12, .d (.i (S g)))]) (fun _ => []) (fun g => g ≤ k.allerg.length) (fun g => k.allerg.length - g) 0 ?_ (Nat.zero_le _) ?_
      · rw [hS0]
        simp (maxSteps := 4000000) only [go_sem]
        refine z26 [] ?_ ?_ rfl rfl <;> simp [lessT, lessM, lessB, AV.less]
        all_goals first | done | rfl | trace_state
      · intro g hgl
        simp (maxSteps := 4000000) only [go_sem]
        repeat (first | refine z21 ?_ | refine z16 ?_ | refine z14 ?_ | (refine z12 fun K hK => ?_; simp (maxSteps := 4000000) only [go_sem, z32]; refine hK _ ?_; clear hK K) | refine z20 ?_ | refine z22 ?_ | refine z17 ?_ | refine z15 ?_ | refine z13 rfl ?_ | refine z19 ?_ | refine z10 ?_ | refine z23 ?_ | refine z18 ?_ | refine z11 ?_)
        refine z27 rfl (fun hb => ?_) (fun hb => ?_)
        · have hltg : g < k.allerg.length := by simpa using hb
          have hwg : IntKind.i64.wrap ((g : Int) + 1) = ((g + 1 : Nat) : Int) := by rw [z30 (by omega)]; simp
          repeat (first | refine z21 ?_ | refine z16 ?_ | refine z14 ?_ | (refine z12 fun K hK => ?_; simp (maxSteps := 4000000) only [go_sem]; refine hK _ ?_; clear hK K) | refine z20 ?_ | refine z22 ?_ | refine z17 ?_ | refine z15 ?_ | refine z13 rfl ?_ | refine z19 ?_ | refine z10 ?_ | refine z23 ?_ | refine z18 ?_ | refine z11 ?_)
          refine z29 (fun (j : Nat) => [(16, .d (.i (j : Int))), (12, .d (.i (S g + T g j))), (14, .d (.i (T g j)))]) (fun _ => []) (fun j => j ≤ D) (fun j => D - j) 0 ?_ (Nat.zero_le _) ?_
          · rw [hT0, Int.add_zero]
            simp (maxSteps := 4000000) only [go_sem]
            refine z26 [] ?_ ?_ rfl rfl <;> simp [lessT, lessM, lessB, AV.less]
            all_goals first | done | rfl | trace_state
          · intro j hj
            simp (maxSteps := 4000000) only [go_sem]
            repeat (first | refine z21 ?_ | refine z16 ?_ | refine z14 ?_ | (refine z12 fun K hK => ?_; simp (maxSteps := 4000000) only [go_sem]; refine hK _ ?_; clear hK K) | refine z20 ?_ | refine z22 ?_ | refine z17 ?_ | refine z15 ?_ | refine z13 rfl ?_ | refine z19 ?_ | refine z10 ?_ | refine z23 ?_ | refine z18 ?_ | refine z11 ?_)
            refine z27 rfl (fun hb => ?_) (fun hb => ?_)
            · have hltj : j < D := by simpa using hb
              have hwj : IntKind.i64.wrap ((j : Int) + 1) = ((j + 1 : Nat) : Int) := by rw [z30 (by omega)]; simp
              have h26j := h26 j g (by omega) hltg
              have gm := rows_getD (M := M) (j := j) (by omega)
              have gc := rows_getD (M := C) (j := j) (by omega)
              have hnj : ¬ ((j : Int) < 0) := by omega
              have r1 := rT g j hltg hj
              have r2 := kN j g hltj hltg
              have r3 := rS g hgl
              have w4 : IntKind.i64.wrap (S g + T g j + nd j g) = S g + T g (j + 1) := by rw [hTs, ← Int.add_assoc]; exact z30 (by omega)
              have w5 : IntKind.i64.wrap (T g j + nd j g) = T g (j + 1) := by rw [hTs]; exact z30 (by omega)
              repeat (first | refine z21 ?_ | refine z16 ?_ | refine z14 ?_ | (refine z12 fun K hK => ?_; simp (maxSteps := 4000000) only [go_sem]; refine hK _ ?_; clear hK K) | refine z20 ?_ | refine z22 ?_ | refine z17 ?_ | refine z15 ?_ | refine z13 rfl ?_ | refine z19 ?_ | refine z10 ?_ | refine z23 ?_ | refine z18 ?_ | refine z11 ?_)
              refine z28 (by kernel_rfl) (by kernel_rfl) fun K hK => ?_
              simp (maxSteps := 4000000) only [go_sem, gm, gc, hnj]
              refine ⟨_, .fn (hf := h26j) (hd := rfl) (hr := .inl rfl), ?_⟩
              simp (maxSteps := 4000000) only [go_sem]
              refine ⟨by kernel_rfl, hK _ ?_⟩
              clear hK K
              repeat (first | refine z21 ?_ | refine z16 ?_ | refine z14 ?_ | (refine z12 fun K hK => ?_; simp (maxSteps := 4000000) only [go_sem, w4, w5, hwj]; refine hK _ ?_; clear hK K) | refine z20 ?_ | refine z22 ?_ | refine z17 ?_ | refine z15 ?_ | refine z13 rfl ?_ | refine z19 ?_ | refine z10 ?_ | refine z23 ?_ | refine z18 ?_ | refine z11 ?_)
              refine ⟨rfl, j + 1, ?_, hltj, by omega⟩
              refine z26 [] ?_ ?_ rfl rfl <;> simp [lessT, lessM, lessB, AV.less]
              all_goals first | done | rfl | trace_state
            · have he : j = D := by (have : ¬ j < D := by simpa using hb); omega
              subst he
              repeat (first | refine z21 ?_ | refine z16 ?_ | refine z14 ?_ | (refine z12 fun K hK => ?_; simp (maxSteps := 4000000) only [go_sem]; refine hK _ ?_; clear hK K) | refine z20 ?_ | refine z22 ?_ | refine z17 ?_ | refine z15 ?_ | refine z13 rfl ?_ | refine z19 ?_ | refine z10 ?_ | refine z23 ?_ | refine z18 ?_ | refine z11 ?_)
              refine z29 (fun (j : Nat) => [(18, .d (.i (j : Int))), (15, .d (.i (U g j)))]) (fun _ => []) (fun j => j ≤ k.batches.length) (fun j => k.batches.length - j) 0 ?_ (Nat.zero_le _) ?_
              · rw [hU0]
                simp (maxSteps := 4000000) only [go_sem]
                refine z26 [] ?_ ?_ rfl rfl <;> simp [lessT, lessM, lessB, AV.less]
                all_goals first | done | rfl | trace_state
              · intro b hbn
                simp (maxSteps := 4000000) only [go_sem]
                repeat (first | refine z21 ?_ | refine z16 ?_ | refine z14 ?_ | (refine z12 fun K hK => ?_; simp (maxSteps := 4000000) only [go_sem, hELl, z32]; refine hK _ ?_; clear hK K) | refine z20 ?_ | refine z22 ?_ | refine z17 ?_ | refine z15 ?_ | refine z13 rfl ?_ | refine z19 ?_ | refine z10 ?_ | refine z23 ?_ | refine z18 ?_ | refine z11 ?_)
                refine z27 rfl (fun hb => ?_) (fun hb => ?_)
                · have hltb : b < k.batches.length := by simpa using hb
                  have hwb : IntKind.i64.wrap ((b : Int) + 1) = ((b + 1 : Nat) : Int) := by rw [z30 (by omega)]; simp
                  have gb := z169 hltb
                  rw [Batch.row, hA1] at gb
                  have gL := z34 (l := EL) (i := b) (by omega)
                  rw [hL1] at gL
                  have hnb : ¬ ((b : Int) < 0) := by omega
                  have a1 := kA b hltb
                  have a2 := kL b hltb
                  have a3 := rU g b hbn
                  have hus := hUs g b
                  by_cases hq : (batAt k b).good = (g : Int)
                  · have q9 : ((batAt k b).good == (g : Int)) = true := by simpa using hq
                    rw [if_pos hq] at hus
                    have w6 : IntKind.i64.wrap (A b - Lf b) = A b - Lf b := z30 (by omega)
                    have w7 : IntKind.i64.wrap (U g b + (A b - Lf b)) = U g (b + 1) := by rw [hus]; exact z30 (by omega)
                    repeat (first | refine z25 rfl ?_ | refine z24 rfl ?_ | refine z21 ?_ | refine z16 ?_ | refine z14 ?_ | (refine z12 fun K hK => ?_; simp (maxSteps := 4000000) only [go_sem, gb, hnb, q9]; refine hK _ ?_; clear hK K) | refine z20 ?_ | refine z22 ?_ | refine z17 ?_ | refine z15 ?_ | refine z13 rfl ?_ | refine z19 ?_ | refine z10 ?_ | refine z23 ?_ | refine z18 ?_ | refine z11 ?_)
                    refine z28 (by kernel_rfl) (by kernel_rfl) fun K hK => ?_
                    simp (maxSteps := 4000000) only [go_sem, gb, gL, hnb, w6, w7]
                    refine ⟨by kernel_rfl, hK _ ?_⟩
                    clear hK K
                    repeat (first | refine z21 ?_ | refine z16 ?_ | refine z14 ?_ | (refine z12 fun K hK => ?_; simp (maxSteps := 4000000) only [go_sem, hwb]; refine hK _ ?_; clear hK K) | refine z20 ?_ | refine z22 ?_ | refine z17 ?_ | refine z15 ?_ | refine z13 rfl ?_ | refine z19 ?_ | refine z10 ?_ | refine z23 ?_ | refine z18 ?_ | refine z11 ?_)
                    refine ⟨rfl, b + 1, ?_, hltb, by omega⟩
                    refine z26 [] ?_ ?_ rfl rfl <;> simp [lessT, lessM, lessB, AV.less]
                    all_goals first | done | rfl | trace_state
                  · have q9 : ((batAt k b).good == (g : Int)) = false := by simpa using hq
                    rw [if_neg hq, Int.add_zero] at hus
                    repeat (first | refine z25 rfl ?_ | refine z24 rfl ?_ | refine z21 ?_ | refine z16 ?_ | refine z14 ?_ | (refine z12 fun K hK => ?_; simp (maxSteps := 4000000) only [go_sem, gb, hnb, q9, hwb]; refine hK _ ?_; clear hK K) | refine z20 ?_ | refine z22 ?_ | refine z17 ?_ | refine z15 ?_ | refine z13 rfl ?_ | refine z19 ?_ | refine z10 ?_ | refine z23 ?_ | refine z18 ?_ | refine z11 ?_)
                    refine ⟨rfl, b + 1, ?_, hltb, by omega⟩
                    rw [hus]
                    refine z26 [] ?_ ?_ rfl rfl <;> simp [lessT, lessM, lessB, AV.less]
                    all_goals first | done | rfl | trace_state
                · have he : b = k.batches.length := by (have : ¬ b < k.batches.length := by simpa using hb); omega
                  subst he
                  have d10 : decide (U g k.batches.length < T g j) = false := decide_eq_false (by have := kG2 g hltg; omega)
                  repeat (first | refine z25 rfl ?_ | refine z24 rfl ?_ | refine z21 ?_ | refine z16 ?_ | refine z14 ?_ | (refine z12 fun K hK => ?_; simp (maxSteps := 4000000) only [go_sem, d10, hwg]; refine hK _ ?_; clear hK K) | refine z20 ?_ | refine z22 ?_ | refine z17 ?_ | refine z15 ?_ | refine z13 rfl ?_ | refine z19 ?_ | refine z10 ?_ | refine z23 ?_ | refine z18 ?_ | refine z11 ?_)
                  refine ⟨rfl, g + 1, ?_, hltg, by omega⟩
                  rw [hSs]
                  refine z26 [] ?_ ?_ rfl rfl <;> simp [lessT, lessM, lessB, AV.less]
                  all_goals first | done | rfl | trace_state
        · have he : g = k.allerg.length := by (have : ¬ g < k.allerg.length := by simpa using hb); omega
          subst he
          have r3 := rS _ (Nat.le_refl k.allerg.length)
          have w8 : IntKind.i64.wrap (sumN Lf k.batches.length + EW) = sumN Lf k.batches.length + EW := z30 (by omega)
          have w9 : IntKind.i64.wrap (sumN Lf k.batches.length + EW + S k.allerg.length) = sumN A k.batches.length := by rw [kT2]; exact z30 (by omega)
          have q10 : (sumN A k.batches.length == sumN A k.batches.length) = true := by simp
          repeat (first | refine z25 rfl ?_ | refine z24 rfl ?_ | refine z21 ?_ | refine z16 ?_ | refine z14 ?_ | (refine z12 fun K hK => ?_; simp (maxSteps := 4000000) only [go_sem, w8, w9, q10]; (repeat (first | (refine ⟨_, .lent (hf := h13) (hd := rfl) (hr := rfl), ?_⟩; simp (maxSteps := 4000000) only [go_sem, w8, w9, q10]) | (refine ⟨_, .given (hf := h13) (hd := rfl) (ha := rfl), ?_⟩; simp (maxSteps := 4000000) only [go_sem, w8, w9, q10]))); refine hK _ ?_; clear hK K) | refine z20 ?_ | refine z22 ?_ | refine z17 ?_ | refine z15 ?_ | refine z13 rfl ?_ | refine z19 ?_ | refine z10 ?_ | refine z23 ?_ | refine z18 ?_ | refine z11 ?_)
          simp (maxSteps := 4000000) only [go_sem]
end Go.Ab
