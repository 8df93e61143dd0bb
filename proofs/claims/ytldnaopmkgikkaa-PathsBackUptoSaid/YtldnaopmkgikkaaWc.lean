/- A walk engine over abstract states, and the contracts of the functions that the statement reaches: part 3. -/
import Derived.Test.YtldnaopmkgikkaaWb
set_option linter.unusedVariables false
set_option linter.unusedSimpArgs false
namespace Go.Ab
open Go.RowKit Go.Proofs

def spanW (x : Path) (p : Party) : Span := ⟨timeW x.time.lo p.pace.lo x.snow.lo p.load, timeW x.time.hi p.pace.hi x.snow.hi p.load⟩

theorem f51 (n : Net) (p : Party) (i : Nat) (x : Path) (hx : n.paths[i]? = some x) : Fn Try.prog 51 [.agg (walkCells n p), .i i] (.agg (spanW x p).row) := by
  refine fn_walk 39 Try.call51 Try.func51 rfl (by decide) fun J => ?_
  simp (maxSteps := 4000000) only [go_sem, St.start, Try.ntmps51, Try.results51, walkCells]
  repeat (first | refine walkL_seq ?_ | refine walkL_skip ?_ | refine walkL_block ?_ | (refine walkL_region fun K hK => ?_; simp (maxSteps := 4000000) only [go_sem, hx, List.getElem?_map, Path.row, Span.row, spanW]; (repeat (first | (refine ⟨_, .lent (hf := f88 _ _ _ n p) (hd := rfl) (hr := rfl), ?_⟩; simp (maxSteps := 4000000) only [go_sem, hx, List.getElem?_map, Path.row, Span.row, spanW]) | (refine ⟨_, .given (hf := f88 _ _ _ n p) (hd := rfl) (ha := rfl), ?_⟩; simp (maxSteps := 4000000) only [go_sem, hx, List.getElem?_map, Path.row, Span.row, spanW]))); refine hK _ ?_; clear hK K) | (refine walkL_drawn (by kernel_rfl) (by kernel_rfl) fun K hK => ?_; simp (maxSteps := 4000000) only [go_sem, hx, List.getElem?_map, Path.row, Span.row, spanW]; (repeat (first | (refine ⟨_, .fn (hf := f88 _ _ _ n p) (hd := rfl) (hr := .inl rfl), ?_⟩; simp (maxSteps := 4000000) only [go_sem, hx, List.getElem?_map, Path.row, Span.row, spanW]))); refine ⟨by kernel_rfl, hK _ ?_⟩; clear hK K) | refine walkL_nil ?_ | refine walkL_ret ?_ | refine walkL_exit ?_ | refine blockA_here ?_ | refine blockA_other rfl ?_ | refine blockA_ret ?_ | refine blockA_normal ?_ | refine thenA_ret ?_ | refine thenA_exit ?_ | refine thenA_normal ?_)
  simp (maxSteps := 4000000) only [go_sem, hx, List.getElem?_map, Path.row, Span.row, spanW]

theorem f24 (n : Net) (p : Party) (i : Nat) (x : Path) (hx : n.paths[i]? = some x) : Fn Try.prog 24 [.agg n.cells, .agg p.cells, .i i] (.agg (spanW x p).row) := by
  refine fn_walk 38 Try.call24 Try.func24 rfl (by decide) fun J => ?_
  simp (maxSteps := 4000000) only [go_sem, St.start, Try.ntmps24, Try.results24, Net.cells, Party.cells]
  repeat (first | refine walkL_seq ?_ | refine walkL_skip ?_ | refine walkL_block ?_ | (refine walkL_region fun K hK => ?_; simp (maxSteps := 4000000) only [go_sem, hx, List.getElem?_map, Path.row, Span.row, spanW]; (repeat (first | (refine ⟨_, .lent (hf := f63 _ _ _ _) (hd := rfl) (hr := rfl), ?_⟩; simp (maxSteps := 4000000) only [go_sem, hx, List.getElem?_map, Path.row, Span.row, spanW]) | (refine ⟨_, .given (hf := f63 _ _ _ _) (hd := rfl) (ha := rfl), ?_⟩; simp (maxSteps := 4000000) only [go_sem, hx, List.getElem?_map, Path.row, Span.row, spanW]))); refine hK _ ?_; clear hK K) | (refine walkL_drawn (by kernel_rfl) (by kernel_rfl) fun K hK => ?_; simp (maxSteps := 4000000) only [go_sem, hx, List.getElem?_map, Path.row, Span.row, spanW]; (repeat (first | (refine ⟨_, .fn (hf := f63 _ _ _ _) (hd := rfl) (hr := .inl rfl), ?_⟩; simp (maxSteps := 4000000) only [go_sem, hx, List.getElem?_map, Path.row, Span.row, spanW]))); refine ⟨by kernel_rfl, hK _ ?_⟩; clear hK K) | refine walkL_nil ?_ | refine walkL_ret ?_ | refine walkL_exit ?_ | refine blockA_here ?_ | refine blockA_other rfl ?_ | refine blockA_ret ?_ | refine blockA_normal ?_ | refine thenA_ret ?_ | refine thenA_exit ?_ | refine thenA_normal ?_)
  simp (maxSteps := 4000000) only [go_sem, hx, List.getElem?_map, Path.row, Span.row, spanW]

/-- The position of the first element that q says yes to, or -1. -/
def idxFrom {α : Type} (q : α → Bool) : List α → Nat → Int
  | [], _ => -1
  | x :: xs, i => if q x then (i : Int) else idxFrom q xs (i + 1)

theorem idxFrom_nonneg {α : Type} (q : α → Bool) : ∀ (l : List α) (i : Nat), decide (idxFrom q l i ≥ 0) = l.any q
  | [], i => by simp [idxFrom]
  | x :: xs, i => by
    simp only [idxFrom, List.any_cons]
    by_cases h : q x
    · simp [h]
    · simp [h, ← idxFrom_nonneg q xs (i + 1)]

theorem reify_caps (m : List (Option Blk)) (x : AV) (d : DV) (caps : List DV) (h : reify m deep x = some d) : allSome ((x :: caps.map AV.d).map (reify m deep)) = some (d :: caps) := by
  have : ∀ l : List DV, allSome ((l.map AV.d).map (reify m deep)) = some l := by
    intro l
    induction l with
    | nil => rfl
    | cons a l ih =>
      simp only [List.map_cons]
      rw [show reify m deep (AV.d a) = some a from rfl]
      simp only [allSome, ih, Option.map_some]
  simp only [List.map_cons, h, allSome]
  rw [this caps]
  rfl

theorem drop_get {α : Type} {l : List α} {i : Nat} {x : α} (h : l[i]? = some x) : l.drop i = x :: l.drop (i + 1) := by
  obtain ⟨hlt, rfl⟩ := List.getElem?_eq_some_iff.1 h
  exact List.drop_eq_getElem_cons hlt

theorem f91 (xs : List Span) (g : Nat) (caps : List DV) (q : Span → Bool) (hq : ∀ s ∈ xs, Fn Try.prog g (.agg s.row :: caps) (.bool (q s))) (hl : xs.length < 2 ^ 62) : Fn Try.prog 91 [.sl (xs.map Span.row), .fn g caps] (.i (idxFrom q xs 0)) := by
  refine fn_walk 19 Try.call91 Try.func91 rfl (by decide) fun J => ?_
  simp (maxSteps := 4000000) only [go_sem, St.start, Try.ntmps91, Try.results91]
  repeat (first | refine walkL_seq ?_ | refine walkL_skip ?_ | refine walkL_block ?_ | (refine walkL_region fun K hK => ?_; simp (maxSteps := 4000000) only [go_sem]; refine hK _ ?_; clear hK K) | refine walkL_nil ?_ | refine walkL_ret ?_ | refine walkL_exit ?_ | refine blockA_here ?_ | refine blockA_other rfl ?_ | refine blockA_ret ?_ | refine blockA_normal ?_ | refine thenA_ret ?_ | refine thenA_exit ?_ | refine thenA_normal ?_)
  refine walkL_loopS (fun (i : Nat) => [(8, .d (.i i))]) (fun _ => []) (fun i => i ≤ xs.length ∧ idxFrom q xs 0 = idxFrom q (xs.drop i) i) (fun i => xs.length - i) 0 ?_ ⟨Nat.zero_le _, rfl⟩ ?_
  · simp (maxSteps := 4000000) only [go_sem]
    refine weak_of [] ?_ ?_ rfl rfl <;> simp [lessT, lessM, lessB, AV.less]
  · intro i ⟨hi, hq0⟩
    simp (maxSteps := 4000000) only [go_sem]
    repeat (first | refine walkL_seq ?_ | refine walkL_skip ?_ | refine walkL_block ?_ | (refine walkL_region fun K hK => ?_; simp (maxSteps := 4000000) only [go_sem]; refine hK _ ?_; clear hK K) | refine walkL_nil ?_ | refine walkL_ret ?_ | refine walkL_exit ?_ | refine blockA_here ?_ | refine blockA_other rfl ?_ | refine blockA_ret ?_ | refine blockA_normal ?_ | refine thenA_ret ?_ | refine thenA_exit ?_ | refine thenA_normal ?_)
    refine walkL_cond rfl (fun hb => ?_) (fun hb => ?_)
    · have hlt : i < xs.length := by simpa using hb
      obtain ⟨s, hs⟩ : ∃ s, xs[i]? = some s := ⟨_, List.getElem?_eq_getElem hlt⟩
      have hw : IntKind.i64.wrap ((i : Int) + 1) = ((i + 1 : Nat) : Int) := by rw [wr_small (by omega)]; simp
      rw [drop_get hs, idxFrom] at hq0
      repeat (first | refine walkL_seq ?_ | refine walkL_skip ?_ | refine walkL_block ?_ | (refine walkL_region fun K hK => ?_; simp (maxSteps := 4000000) only [go_sem]; refine hK _ ?_; clear hK K) | refine walkL_nil ?_ | refine walkL_ret ?_ | refine walkL_exit ?_ | refine blockA_here ?_ | refine blockA_other rfl ?_ | refine blockA_ret ?_ | refine blockA_normal ?_ | refine thenA_ret ?_ | refine thenA_exit ?_ | refine thenA_normal ?_)
      refine walkL_region fun K hK => ?_
      simp (maxSteps := 4000000) only [go_sem, hs, List.getElem?_map, Span.row, hw]
      refine ⟨_, .lent (hf := hq s (List.mem_of_getElem? hs)) (hd := reify_caps _ _ _ _ rfl) (hr := rfl), ?_⟩
      simp (maxSteps := 4000000) only [go_sem]
      refine hK _ ?_
      clear hK K
      refine walkL_cond rfl (fun hc => ?_) (fun hc => ?_)
      · rw [hc, if_pos rfl] at hq0
        repeat (first | refine walkL_seq ?_ | refine walkL_skip ?_ | refine walkL_block ?_ | (refine walkL_region fun K hK => ?_; simp (maxSteps := 4000000) only [go_sem]; refine hK _ ?_; clear hK K) | refine walkL_nil ?_ | refine walkL_ret ?_ | refine walkL_exit ?_ | refine blockA_here ?_ | refine blockA_other rfl ?_ | refine blockA_ret ?_ | refine blockA_normal ?_ | refine thenA_ret ?_ | refine thenA_exit ?_ | refine thenA_normal ?_)
        simp (maxSteps := 4000000) only [go_sem, hq0]
      · rw [hc] at hq0
        repeat (first | refine walkL_seq ?_ | refine walkL_skip ?_ | refine walkL_block ?_ | (refine walkL_region fun K hK => ?_; simp (maxSteps := 4000000) only [go_sem, hw]; refine hK _ ?_; clear hK K) | refine walkL_nil ?_ | refine walkL_ret ?_ | refine walkL_exit ?_ | refine blockA_here ?_ | refine blockA_other rfl ?_ | refine blockA_ret ?_ | refine blockA_normal ?_ | refine thenA_ret ?_ | refine thenA_exit ?_ | refine thenA_normal ?_)
        refine ⟨rfl, i + 1, ?_, ⟨hlt, hq0⟩, by omega⟩
        refine weak_of [] ?_ ?_ rfl rfl <;> simp [lessT, lessM, lessB, AV.less]
    · have he : i = xs.length := by have : ¬ i < xs.length := by simpa using hb
                                    omega
      subst he
      repeat (first | refine walkL_seq ?_ | refine walkL_skip ?_ | refine walkL_block ?_ | (refine walkL_region fun K hK => ?_; simp (maxSteps := 4000000) only [go_sem]; refine hK _ ?_; clear hK K) | refine walkL_nil ?_ | refine walkL_ret ?_ | refine walkL_exit ?_ | refine blockA_here ?_ | refine blockA_other rfl ?_ | refine blockA_ret ?_ | refine blockA_normal ?_ | refine thenA_ret ?_ | refine thenA_exit ?_ | refine thenA_normal ?_)
      simp (maxSteps := 4000000) only [go_sem, hq0, List.drop_length, idxFrom]
theorem f92 (xs : List (Path)) (g : Nat) (caps : List DV) (q : Path → Bool) (hq : ∀ s ∈ xs, Fn Try.prog g (.agg s.row :: caps) (.bool (q s))) (hl : xs.length < 2 ^ 62) : Fn Try.prog 92 [.sl (xs.map Path.row), .fn g caps] (.i (idxFrom q xs 0)) := by
  refine fn_walk 19 Try.call92 Try.func92 rfl (by decide) fun J => ?_
  simp (maxSteps := 4000000) only [go_sem, St.start, Try.ntmps92, Try.results92]
  repeat (first | refine walkL_seq ?_ | refine walkL_skip ?_ | refine walkL_block ?_ | (refine walkL_region fun K hK => ?_; simp (maxSteps := 4000000) only [go_sem]; refine hK _ ?_; clear hK K) | refine walkL_nil ?_ | refine walkL_ret ?_ | refine walkL_exit ?_ | refine blockA_here ?_ | refine blockA_other rfl ?_ | refine blockA_ret ?_ | refine blockA_normal ?_ | refine thenA_ret ?_ | refine thenA_exit ?_ | refine thenA_normal ?_)
  refine walkL_loopS (fun (i : Nat) => [(8, .d (.i i))]) (fun _ => []) (fun i => i ≤ xs.length ∧ idxFrom q xs 0 = idxFrom q (xs.drop i) i) (fun i => xs.length - i) 0 ?_ ⟨Nat.zero_le _, rfl⟩ ?_
  · simp (maxSteps := 4000000) only [go_sem]
    refine weak_of [] ?_ ?_ rfl rfl <;> simp [lessT, lessM, lessB, AV.less]
  · intro i ⟨hi, hq0⟩
    simp (maxSteps := 4000000) only [go_sem]
    repeat (first | refine walkL_seq ?_ | refine walkL_skip ?_ | refine walkL_block ?_ | (refine walkL_region fun K hK => ?_; simp (maxSteps := 4000000) only [go_sem]; refine hK _ ?_; clear hK K) | refine walkL_nil ?_ | refine walkL_ret ?_ | refine walkL_exit ?_ | refine blockA_here ?_ | refine blockA_other rfl ?_ | refine blockA_ret ?_ | refine blockA_normal ?_ | refine thenA_ret ?_ | refine thenA_exit ?_ | refine thenA_normal ?_)
    refine walkL_cond rfl (fun hb => ?_) (fun hb => ?_)
    · have hlt : i < xs.length := by simpa using hb
      obtain ⟨s, hs⟩ : ∃ s, xs[i]? = some s := ⟨_, List.getElem?_eq_getElem hlt⟩
      have hw : IntKind.i64.wrap ((i : Int) + 1) = ((i + 1 : Nat) : Int) := by rw [wr_small (by omega)]; simp
      rw [drop_get hs, idxFrom] at hq0
      repeat (first | refine walkL_seq ?_ | refine walkL_skip ?_ | refine walkL_block ?_ | (refine walkL_region fun K hK => ?_; simp (maxSteps := 4000000) only [go_sem]; refine hK _ ?_; clear hK K) | refine walkL_nil ?_ | refine walkL_ret ?_ | refine walkL_exit ?_ | refine blockA_here ?_ | refine blockA_other rfl ?_ | refine blockA_ret ?_ | refine blockA_normal ?_ | refine thenA_ret ?_ | refine thenA_exit ?_ | refine thenA_normal ?_)
      refine walkL_region fun K hK => ?_
      simp (maxSteps := 4000000) only [go_sem, hs, List.getElem?_map, Path.row, hw]
      refine ⟨_, .lent (hf := hq s (List.mem_of_getElem? hs)) (hd := reify_caps _ _ _ _ rfl) (hr := rfl), ?_⟩
      simp (maxSteps := 4000000) only [go_sem]
      refine hK _ ?_
      clear hK K
      refine walkL_cond rfl (fun hc => ?_) (fun hc => ?_)
      · rw [hc, if_pos rfl] at hq0
        repeat (first | refine walkL_seq ?_ | refine walkL_skip ?_ | refine walkL_block ?_ | (refine walkL_region fun K hK => ?_; simp (maxSteps := 4000000) only [go_sem]; refine hK _ ?_; clear hK K) | refine walkL_nil ?_ | refine walkL_ret ?_ | refine walkL_exit ?_ | refine blockA_here ?_ | refine blockA_other rfl ?_ | refine blockA_ret ?_ | refine blockA_normal ?_ | refine thenA_ret ?_ | refine thenA_exit ?_ | refine thenA_normal ?_)
        simp (maxSteps := 4000000) only [go_sem, hq0]
      · rw [hc] at hq0
        repeat (first | refine walkL_seq ?_ | refine walkL_skip ?_ | refine walkL_block ?_ | (refine walkL_region fun K hK => ?_; simp (maxSteps := 4000000) only [go_sem, hw]; refine hK _ ?_; clear hK K) | refine walkL_nil ?_ | refine walkL_ret ?_ | refine walkL_exit ?_ | refine blockA_here ?_ | refine blockA_other rfl ?_ | refine blockA_ret ?_ | refine blockA_normal ?_ | refine thenA_ret ?_ | refine thenA_exit ?_ | refine thenA_normal ?_)
        refine ⟨rfl, i + 1, ?_, ⟨hlt, hq0⟩, by omega⟩
        refine weak_of [] ?_ ?_ rfl rfl <;> simp [lessT, lessM, lessB, AV.less]
    · have he : i = xs.length := by have : ¬ i < xs.length := by simpa using hb
                                    omega
      subst he
      repeat (first | refine walkL_seq ?_ | refine walkL_skip ?_ | refine walkL_block ?_ | (refine walkL_region fun K hK => ?_; simp (maxSteps := 4000000) only [go_sem]; refine hK _ ?_; clear hK K) | refine walkL_nil ?_ | refine walkL_ret ?_ | refine walkL_exit ?_ | refine blockA_here ?_ | refine blockA_other rfl ?_ | refine blockA_ret ?_ | refine blockA_normal ?_ | refine thenA_ret ?_ | refine thenA_exit ?_ | refine thenA_normal ?_)
      simp (maxSteps := 4000000) only [go_sem, hq0, List.drop_length, idxFrom]
theorem f93 (xs : List (Int)) (g : Nat) (caps : List DV) (q : Int → Bool) (hq : ∀ s ∈ xs, Fn Try.prog g (.i s :: caps) (.bool (q s))) (hl : xs.length < 2 ^ 62) : Fn Try.prog 93 [.sl (xs.map (fun x => [.i x])), .fn g caps] (.i (idxFrom q xs 0)) := by
  refine fn_walk 19 Try.call93 Try.func93 rfl (by decide) fun J => ?_
  simp (maxSteps := 4000000) only [go_sem, St.start, Try.ntmps93, Try.results93]
  repeat (first | refine walkL_seq ?_ | refine walkL_skip ?_ | refine walkL_block ?_ | (refine walkL_region fun K hK => ?_; simp (maxSteps := 4000000) only [go_sem]; refine hK _ ?_; clear hK K) | refine walkL_nil ?_ | refine walkL_ret ?_ | refine walkL_exit ?_ | refine blockA_here ?_ | refine blockA_other rfl ?_ | refine blockA_ret ?_ | refine blockA_normal ?_ | refine thenA_ret ?_ | refine thenA_exit ?_ | refine thenA_normal ?_)
  refine walkL_loopS (fun (i : Nat) => [(8, .d (.i i))]) (fun _ => []) (fun i => i ≤ xs.length ∧ idxFrom q xs 0 = idxFrom q (xs.drop i) i) (fun i => xs.length - i) 0 ?_ ⟨Nat.zero_le _, rfl⟩ ?_
  · simp (maxSteps := 4000000) only [go_sem]
    refine weak_of [] ?_ ?_ rfl rfl <;> simp [lessT, lessM, lessB, AV.less]
  · intro i ⟨hi, hq0⟩
    simp (maxSteps := 4000000) only [go_sem]
    repeat (first | refine walkL_seq ?_ | refine walkL_skip ?_ | refine walkL_block ?_ | (refine walkL_region fun K hK => ?_; simp (maxSteps := 4000000) only [go_sem]; refine hK _ ?_; clear hK K) | refine walkL_nil ?_ | refine walkL_ret ?_ | refine walkL_exit ?_ | refine blockA_here ?_ | refine blockA_other rfl ?_ | refine blockA_ret ?_ | refine blockA_normal ?_ | refine thenA_ret ?_ | refine thenA_exit ?_ | refine thenA_normal ?_)
    refine walkL_cond rfl (fun hb => ?_) (fun hb => ?_)
    · have hlt : i < xs.length := by simpa using hb
      obtain ⟨s, hs⟩ : ∃ s, xs[i]? = some s := ⟨_, List.getElem?_eq_getElem hlt⟩
      have hw : IntKind.i64.wrap ((i : Int) + 1) = ((i + 1 : Nat) : Int) := by rw [wr_small (by omega)]; simp
      rw [drop_get hs, idxFrom] at hq0
      repeat (first | refine walkL_seq ?_ | refine walkL_skip ?_ | refine walkL_block ?_ | (refine walkL_region fun K hK => ?_; simp (maxSteps := 4000000) only [go_sem]; refine hK _ ?_; clear hK K) | refine walkL_nil ?_ | refine walkL_ret ?_ | refine walkL_exit ?_ | refine blockA_here ?_ | refine blockA_other rfl ?_ | refine blockA_ret ?_ | refine blockA_normal ?_ | refine thenA_ret ?_ | refine thenA_exit ?_ | refine thenA_normal ?_)
      refine walkL_region fun K hK => ?_
      simp (maxSteps := 4000000) only [go_sem, hs, List.getElem?_map, hw]
      refine ⟨_, .lent (hf := hq s (List.mem_of_getElem? hs)) (hd := reify_caps _ _ _ _ rfl) (hr := rfl), ?_⟩
      simp (maxSteps := 4000000) only [go_sem]
      refine hK _ ?_
      clear hK K
      refine walkL_cond rfl (fun hc => ?_) (fun hc => ?_)
      · rw [hc, if_pos rfl] at hq0
        repeat (first | refine walkL_seq ?_ | refine walkL_skip ?_ | refine walkL_block ?_ | (refine walkL_region fun K hK => ?_; simp (maxSteps := 4000000) only [go_sem]; refine hK _ ?_; clear hK K) | refine walkL_nil ?_ | refine walkL_ret ?_ | refine walkL_exit ?_ | refine blockA_here ?_ | refine blockA_other rfl ?_ | refine blockA_ret ?_ | refine blockA_normal ?_ | refine thenA_ret ?_ | refine thenA_exit ?_ | refine thenA_normal ?_)
        simp (maxSteps := 4000000) only [go_sem, hq0]
      · rw [hc] at hq0
        repeat (first | refine walkL_seq ?_ | refine walkL_skip ?_ | refine walkL_block ?_ | (refine walkL_region fun K hK => ?_; simp (maxSteps := 4000000) only [go_sem, hw]; refine hK _ ?_; clear hK K) | refine walkL_nil ?_ | refine walkL_ret ?_ | refine walkL_exit ?_ | refine blockA_here ?_ | refine blockA_other rfl ?_ | refine blockA_ret ?_ | refine blockA_normal ?_ | refine thenA_ret ?_ | refine thenA_exit ?_ | refine thenA_normal ?_)
        refine ⟨rfl, i + 1, ?_, ⟨hlt, hq0⟩, by omega⟩
        refine weak_of [] ?_ ?_ rfl rfl <;> simp [lessT, lessM, lessB, AV.less]
    · have he : i = xs.length := by have : ¬ i < xs.length := by simpa using hb
                                    omega
      subst he
      repeat (first | refine walkL_seq ?_ | refine walkL_skip ?_ | refine walkL_block ?_ | (refine walkL_region fun K hK => ?_; simp (maxSteps := 4000000) only [go_sem]; refine hK _ ?_; clear hK K) | refine walkL_nil ?_ | refine walkL_ret ?_ | refine walkL_exit ?_ | refine blockA_here ?_ | refine blockA_other rfl ?_ | refine blockA_ret ?_ | refine blockA_normal ?_ | refine thenA_ret ?_ | refine thenA_exit ?_ | refine thenA_normal ?_)
      simp (maxSteps := 4000000) only [go_sem, hq0, List.drop_length, idxFrom]
theorem f44 (xs : List (List Int)) (g : Nat) (caps : List DV) (q : List Int → Bool) (hq : ∀ s ∈ xs, Fn Try.prog g (.sl (s.map fun x => [.i x]) :: caps) (.bool (q s))) (hl : xs.length < 2 ^ 62) : Fn Try.prog 44 [.sl (xs.map (fun l => [.sl (l.map fun x => [.i x])])), .fn g caps] (.i (idxFrom q xs 0)) := by
  refine fn_walk 19 Try.call44 Try.func44 rfl (by decide) fun J => ?_
  simp (maxSteps := 4000000) only [go_sem, St.start, Try.ntmps44, Try.results44]
  repeat (first | refine walkL_seq ?_ | refine walkL_skip ?_ | refine walkL_block ?_ | (refine walkL_region fun K hK => ?_; simp (maxSteps := 4000000) only [go_sem]; refine hK _ ?_; clear hK K) | refine walkL_nil ?_ | refine walkL_ret ?_ | refine walkL_exit ?_ | refine blockA_here ?_ | refine blockA_other rfl ?_ | refine blockA_ret ?_ | refine blockA_normal ?_ | refine thenA_ret ?_ | refine thenA_exit ?_ | refine thenA_normal ?_)
  refine walkL_loopS (fun (i : Nat) => [(8, .d (.i i))]) (fun _ => []) (fun i => i ≤ xs.length ∧ idxFrom q xs 0 = idxFrom q (xs.drop i) i) (fun i => xs.length - i) 0 ?_ ⟨Nat.zero_le _, rfl⟩ ?_
  · simp (maxSteps := 4000000) only [go_sem]
    refine weak_of [] ?_ ?_ rfl rfl <;> simp [lessT, lessM, lessB, AV.less]
  · intro i ⟨hi, hq0⟩
    simp (maxSteps := 4000000) only [go_sem]
    repeat (first | refine walkL_seq ?_ | refine walkL_skip ?_ | refine walkL_block ?_ | (refine walkL_region fun K hK => ?_; simp (maxSteps := 4000000) only [go_sem]; refine hK _ ?_; clear hK K) | refine walkL_nil ?_ | refine walkL_ret ?_ | refine walkL_exit ?_ | refine blockA_here ?_ | refine blockA_other rfl ?_ | refine blockA_ret ?_ | refine blockA_normal ?_ | refine thenA_ret ?_ | refine thenA_exit ?_ | refine thenA_normal ?_)
    refine walkL_cond rfl (fun hb => ?_) (fun hb => ?_)
    · have hlt : i < xs.length := by simpa using hb
      obtain ⟨s, hs⟩ : ∃ s, xs[i]? = some s := ⟨_, List.getElem?_eq_getElem hlt⟩
      have hw : IntKind.i64.wrap ((i : Int) + 1) = ((i + 1 : Nat) : Int) := by rw [wr_small (by omega)]; simp
      rw [drop_get hs, idxFrom] at hq0
      repeat (first | refine walkL_seq ?_ | refine walkL_skip ?_ | refine walkL_block ?_ | (refine walkL_region fun K hK => ?_; simp (maxSteps := 4000000) only [go_sem]; refine hK _ ?_; clear hK K) | refine walkL_nil ?_ | refine walkL_ret ?_ | refine walkL_exit ?_ | refine blockA_here ?_ | refine blockA_other rfl ?_ | refine blockA_ret ?_ | refine blockA_normal ?_ | refine thenA_ret ?_ | refine thenA_exit ?_ | refine thenA_normal ?_)
      refine walkL_region fun K hK => ?_
      simp (maxSteps := 4000000) only [go_sem, hs, List.getElem?_map, hw]
      refine ⟨_, .lent (hf := hq s (List.mem_of_getElem? hs)) (hd := reify_caps _ _ _ _ rfl) (hr := rfl), ?_⟩
      simp (maxSteps := 4000000) only [go_sem]
      refine hK _ ?_
      clear hK K
      refine walkL_cond rfl (fun hc => ?_) (fun hc => ?_)
      · rw [hc, if_pos rfl] at hq0
        repeat (first | refine walkL_seq ?_ | refine walkL_skip ?_ | refine walkL_block ?_ | (refine walkL_region fun K hK => ?_; simp (maxSteps := 4000000) only [go_sem]; refine hK _ ?_; clear hK K) | refine walkL_nil ?_ | refine walkL_ret ?_ | refine walkL_exit ?_ | refine blockA_here ?_ | refine blockA_other rfl ?_ | refine blockA_ret ?_ | refine blockA_normal ?_ | refine thenA_ret ?_ | refine thenA_exit ?_ | refine thenA_normal ?_)
        simp (maxSteps := 4000000) only [go_sem, hq0]
      · rw [hc] at hq0
        repeat (first | refine walkL_seq ?_ | refine walkL_skip ?_ | refine walkL_block ?_ | (refine walkL_region fun K hK => ?_; simp (maxSteps := 4000000) only [go_sem, hw]; refine hK _ ?_; clear hK K) | refine walkL_nil ?_ | refine walkL_ret ?_ | refine walkL_exit ?_ | refine blockA_here ?_ | refine blockA_other rfl ?_ | refine blockA_ret ?_ | refine blockA_normal ?_ | refine thenA_ret ?_ | refine thenA_exit ?_ | refine thenA_normal ?_)
        refine ⟨rfl, i + 1, ?_, ⟨hlt, hq0⟩, by omega⟩
        refine weak_of [] ?_ ?_ rfl rfl <;> simp [lessT, lessM, lessB, AV.less]
    · have he : i = xs.length := by have : ¬ i < xs.length := by simpa using hb
                                    omega
      subst he
      repeat (first | refine walkL_seq ?_ | refine walkL_skip ?_ | refine walkL_block ?_ | (refine walkL_region fun K hK => ?_; simp (maxSteps := 4000000) only [go_sem]; refine hK _ ?_; clear hK K) | refine walkL_nil ?_ | refine walkL_ret ?_ | refine walkL_exit ?_ | refine blockA_here ?_ | refine blockA_other rfl ?_ | refine blockA_ret ?_ | refine blockA_normal ?_ | refine thenA_ret ?_ | refine thenA_exit ?_ | refine thenA_normal ?_)
      simp (maxSteps := 4000000) only [go_sem, hq0, List.drop_length, idxFrom]
theorem f69 (xs : List (Span)) (g : Nat) (caps : List DV) (q : Span → Bool) (hq : ∀ s ∈ xs, Fn Try.prog g (.agg s.row :: caps) (.bool (q s))) (hl : xs.length < 2 ^ 62) : Fn Try.prog 69 [.sl (xs.map Span.row), .fn g caps] (.bool (xs.any q)) := by
  refine fn_walk 9 Try.call69 Try.func69 rfl (by decide) fun J => ?_
  simp (maxSteps := 4000000) only [go_sem, St.start, Try.ntmps69, Try.results69]
  repeat (first | refine walkL_seq ?_ | refine walkL_skip ?_ | refine walkL_block ?_ | (refine walkL_region fun K hK => ?_; simp (maxSteps := 4000000) only [go_sem]; (repeat (first | (refine ⟨_, .lent (hf := f91 xs g caps q hq hl) (hd := rfl) (hr := rfl), ?_⟩; simp (maxSteps := 4000000) only [go_sem]) | (refine ⟨_, .given (hf := f91 xs g caps q hq hl) (hd := rfl) (ha := rfl), ?_⟩; simp (maxSteps := 4000000) only [go_sem]))); refine hK _ ?_; clear hK K) | refine walkL_nil ?_ | refine walkL_ret ?_ | refine walkL_exit ?_ | refine blockA_here ?_ | refine blockA_other rfl ?_ | refine blockA_ret ?_ | refine blockA_normal ?_ | refine thenA_ret ?_ | refine thenA_exit ?_ | refine thenA_normal ?_)
  simp (maxSteps := 4000000) only [go_sem, idxFrom_nonneg]

theorem f70 (xs : List (Path)) (g : Nat) (caps : List DV) (q : Path → Bool) (hq : ∀ s ∈ xs, Fn Try.prog g (.agg s.row :: caps) (.bool (q s))) (hl : xs.length < 2 ^ 62) : Fn Try.prog 70 [.sl (xs.map Path.row), .fn g caps] (.bool (xs.any q)) := by
  refine fn_walk 9 Try.call70 Try.func70 rfl (by decide) fun J => ?_
  simp (maxSteps := 4000000) only [go_sem, St.start, Try.ntmps70, Try.results70]
  repeat (first | refine walkL_seq ?_ | refine walkL_skip ?_ | refine walkL_block ?_ | (refine walkL_region fun K hK => ?_; simp (maxSteps := 4000000) only [go_sem]; (repeat (first | (refine ⟨_, .lent (hf := f92 xs g caps q hq hl) (hd := rfl) (hr := rfl), ?_⟩; simp (maxSteps := 4000000) only [go_sem]) | (refine ⟨_, .given (hf := f92 xs g caps q hq hl) (hd := rfl) (ha := rfl), ?_⟩; simp (maxSteps := 4000000) only [go_sem]))); refine hK _ ?_; clear hK K) | refine walkL_nil ?_ | refine walkL_ret ?_ | refine walkL_exit ?_ | refine blockA_here ?_ | refine blockA_other rfl ?_ | refine blockA_ret ?_ | refine blockA_normal ?_ | refine thenA_ret ?_ | refine thenA_exit ?_ | refine thenA_normal ?_)
  simp (maxSteps := 4000000) only [go_sem, idxFrom_nonneg]

theorem f83 (xs : List (Int)) (g : Nat) (caps : List DV) (q : Int → Bool) (hq : ∀ s ∈ xs, Fn Try.prog g (.i s :: caps) (.bool (q s))) (hl : xs.length < 2 ^ 62) : Fn Try.prog 83 [.sl (xs.map fun x => [.i x]), .fn g caps] (.bool (xs.any q)) := by
  refine fn_walk 9 Try.call83 Try.func83 rfl (by decide) fun J => ?_
  simp (maxSteps := 4000000) only [go_sem, St.start, Try.ntmps83, Try.results83]
  repeat (first | refine walkL_seq ?_ | refine walkL_skip ?_ | refine walkL_block ?_ | (refine walkL_region fun K hK => ?_; simp (maxSteps := 4000000) only [go_sem]; (repeat (first | (refine ⟨_, .lent (hf := f93 xs g caps q hq hl) (hd := rfl) (hr := rfl), ?_⟩; simp (maxSteps := 4000000) only [go_sem]) | (refine ⟨_, .given (hf := f93 xs g caps q hq hl) (hd := rfl) (ha := rfl), ?_⟩; simp (maxSteps := 4000000) only [go_sem]))); refine hK _ ?_; clear hK K) | refine walkL_nil ?_ | refine walkL_ret ?_ | refine walkL_exit ?_ | refine blockA_here ?_ | refine blockA_other rfl ?_ | refine blockA_ret ?_ | refine blockA_normal ?_ | refine thenA_ret ?_ | refine thenA_exit ?_ | refine thenA_normal ?_)
  simp (maxSteps := 4000000) only [go_sem, idxFrom_nonneg]

end Go.Ab
namespace Go.Ab
open Go.RowKit Go.Proofs

def latestF (opens : List Span) (b : Int) : Int := opens.foldl (fun last s => if s.lo ≤ b then max last (min s.hi b) else last) (-1)

theorem f49 (n : Net) (p : Party) (i : Nat) (x : Path) (b : Int) (hx : n.paths[i]? = some x) (hl : x.opens.length < 2 ^ 62) : Fn Try.prog 49 [.agg (walkCells n p), .i i, .i b] (.i (latestF x.opens (wr (b - (spanW x p).hi)))) := by
  refine fn_walk 40 Try.call49 Try.func49 rfl (by decide) fun J => ?_
  simp (maxSteps := 4000000) only [go_sem, St.start, Try.ntmps49, Try.results49, walkCells]
  repeat (first | refine walkL_seq ?_ | refine walkL_skip ?_ | refine walkL_block ?_ | (refine walkL_region fun K hK => ?_; simp (maxSteps := 4000000) only [go_sem, hx, List.getElem?_map, Path.row, Span.row]; (repeat (first | (refine ⟨_, .lent (hf := f51 n p i x hx) (hd := rfl) (hr := rfl), ?_⟩; simp (maxSteps := 4000000) only [go_sem, hx, List.getElem?_map, Path.row, Span.row]) | (refine ⟨_, .given (hf := f51 n p i x hx) (hd := rfl) (ha := rfl), ?_⟩; simp (maxSteps := 4000000) only [go_sem, hx, List.getElem?_map, Path.row, Span.row]))); refine hK _ ?_; clear hK K) | refine walkL_nil ?_ | refine walkL_ret ?_ | refine walkL_exit ?_ | refine blockA_here ?_ | refine blockA_other rfl ?_ | refine blockA_ret ?_ | refine blockA_normal ?_ | refine thenA_ret ?_ | refine thenA_exit ?_ | refine thenA_normal ?_)
  refine walkL_loopS (fun (j : Nat) => [(7, .d (.i (latestF (x.opens.take j) (wr (b - (spanW x p).hi))))), (24, .d (.i j))]) (fun _ => []) (fun j => j ≤ x.opens.length) (fun j => x.opens.length - j) 0 ?_ (Nat.zero_le _) ?_
  · simp (maxSteps := 4000000) only [go_sem]
    refine weak_of [] ?_ ?_ rfl rfl <;> simp [lessT, lessM, lessB, AV.less]
    rfl
  · intro j hj
    simp (maxSteps := 4000000) only [go_sem]
    repeat (first | refine walkL_seq ?_ | refine walkL_skip ?_ | refine walkL_block ?_ | (refine walkL_region fun K hK => ?_; simp (maxSteps := 4000000) only [go_sem]; refine hK _ ?_; clear hK K) | refine walkL_nil ?_ | refine walkL_ret ?_ | refine walkL_exit ?_ | refine blockA_here ?_ | refine blockA_other rfl ?_ | refine blockA_ret ?_ | refine blockA_normal ?_ | refine thenA_ret ?_ | refine thenA_exit ?_ | refine thenA_normal ?_)
    refine walkL_cond rfl (fun hb => ?_) (fun hb => ?_)
    · have hlt : j < x.opens.length := by simpa using hb
      obtain ⟨s, hs⟩ : ∃ s, x.opens[j]? = some s := ⟨_, List.getElem?_eq_getElem hlt⟩
      have hw : IntKind.i64.wrap ((j : Int) + 1) = ((j + 1 : Nat) : Int) := by rw [wr_small (by omega)]; simp
      have hn : latestF (x.opens.take (j + 1)) (wr (b - (spanW x p).hi)) = if s.lo ≤ wr (b - (spanW x p).hi) then max (latestF (x.opens.take j) (wr (b - (spanW x p).hi))) (min s.hi (wr (b - (spanW x p).hi))) else latestF (x.opens.take j) (wr (b - (spanW x p).hi)) := foldl_take_succ _ _ _ _ _ hs
      repeat (first | refine walkL_seq ?_ | refine walkL_skip ?_ | refine walkL_block ?_ | (refine walkL_region fun K hK => ?_; simp (maxSteps := 4000000) only [go_sem, hs, List.getElem?_map, Span.row, hw]; refine hK _ ?_; clear hK K) | refine walkL_nil ?_ | refine walkL_ret ?_ | refine walkL_exit ?_ | refine blockA_here ?_ | refine blockA_other rfl ?_ | refine blockA_ret ?_ | refine blockA_normal ?_ | refine thenA_ret ?_ | refine thenA_exit ?_ | refine thenA_normal ?_)
      refine walkL_cond rfl (fun hc => ?_) (fun hc => ?_)
      · have hc : s.lo ≤ wr (b - (spanW x p).hi) := by simpa using hc
        repeat (first | refine walkL_seq ?_ | refine walkL_skip ?_ | refine walkL_block ?_ | (refine walkL_region fun K hK => ?_; simp (maxSteps := 4000000) only [go_sem, hs, List.getElem?_map, Span.row, hw]; refine hK _ ?_; clear hK K) | refine walkL_nil ?_ | refine walkL_ret ?_ | refine walkL_exit ?_ | refine blockA_here ?_ | refine blockA_other rfl ?_ | refine blockA_ret ?_ | refine blockA_normal ?_ | refine thenA_ret ?_ | refine thenA_exit ?_ | refine thenA_normal ?_)
        refine ⟨rfl, j + 1, ?_, hlt, by omega⟩
        rw [hn, if_pos hc]
        refine weak_of [] ?_ ?_ rfl rfl <;> simp [lessT, lessM, lessB, AV.less]
      · have hc : ¬ s.lo ≤ wr (b - (spanW x p).hi) := by simpa using hc
        repeat (first | refine walkL_seq ?_ | refine walkL_skip ?_ | refine walkL_block ?_ | (refine walkL_region fun K hK => ?_; simp (maxSteps := 4000000) only [go_sem, hs, List.getElem?_map, Span.row, hw]; refine hK _ ?_; clear hK K) | refine walkL_nil ?_ | refine walkL_ret ?_ | refine walkL_exit ?_ | refine blockA_here ?_ | refine blockA_other rfl ?_ | refine blockA_ret ?_ | refine blockA_normal ?_ | refine thenA_ret ?_ | refine thenA_exit ?_ | refine thenA_normal ?_)
        refine ⟨rfl, j + 1, ?_, hlt, by omega⟩
        rw [hn, if_neg hc]
        refine weak_of [] ?_ ?_ rfl rfl <;> simp [lessT, lessM, lessB, AV.less]
    · have he : j = x.opens.length := by have : ¬ j < x.opens.length := by simpa using hb
                                         omega
      subst he
      repeat (first | refine walkL_seq ?_ | refine walkL_skip ?_ | refine walkL_block ?_ | (refine walkL_region fun K hK => ?_; simp (maxSteps := 4000000) only [go_sem]; refine hK _ ?_; clear hK K) | refine walkL_nil ?_ | refine walkL_ret ?_ | refine walkL_exit ?_ | refine blockA_here ?_ | refine blockA_other rfl ?_ | refine blockA_ret ?_ | refine blockA_normal ?_ | refine thenA_ret ?_ | refine thenA_exit ?_ | refine thenA_normal ?_)
      simp (maxSteps := 4000000) only [go_sem, List.take_length]

def arriveF (opens : List Span) (t time : Int) : Int := if wr (enterF opens t + time) > 2880 then 1073741824 else wr (enterF opens t + time)

theorem f50 (n : Net) (p : Party) (i : Nat) (x : Path) (t time : Int) (hx : n.paths[i]? = some x) (hl : x.opens.length < 2 ^ 62) : Fn Try.prog 50 [.agg (walkCells n p), .i i, .i t, .i time] (.i (arriveF x.opens t time)) := by
  refine fn_walk 42 Try.call50 Try.func50 rfl (by decide) fun J => ?_
  simp (maxSteps := 4000000) only [go_sem, St.start, Try.ntmps50, Try.results50, walkCells]
  repeat (first | refine walkL_seq ?_ | refine walkL_skip ?_ | refine walkL_block ?_ | (refine walkL_region fun K hK => ?_; simp (maxSteps := 4000000) only [go_sem, hx, List.getElem?_map, Path.row]; refine hK _ ?_; clear hK K) | refine walkL_nil ?_ | refine walkL_ret ?_ | refine walkL_exit ?_ | refine blockA_here ?_ | refine blockA_other rfl ?_ | refine blockA_ret ?_ | refine blockA_normal ?_ | refine thenA_ret ?_ | refine thenA_exit ?_ | refine thenA_normal ?_)
  refine walkL_loopS (fun (j : Nat) => [(9, .d (.i (enterF (x.opens.take j) t))), (20, .d (.i j))]) (fun _ => []) (fun j => j ≤ x.opens.length) (fun j => x.opens.length - j) 0 ?_ (Nat.zero_le _) ?_
  · simp (maxSteps := 4000000) only [go_sem]
    refine weak_of [] ?_ ?_ rfl rfl <;> simp [lessT, lessM, lessB, AV.less]
    rfl
  · intro j hj
    simp (maxSteps := 4000000) only [go_sem]
    repeat (first | refine walkL_seq ?_ | refine walkL_skip ?_ | refine walkL_block ?_ | (refine walkL_region fun K hK => ?_; simp (maxSteps := 4000000) only [go_sem]; refine hK _ ?_; clear hK K) | refine walkL_nil ?_ | refine walkL_ret ?_ | refine walkL_exit ?_ | refine blockA_here ?_ | refine blockA_other rfl ?_ | refine blockA_ret ?_ | refine blockA_normal ?_ | refine thenA_ret ?_ | refine thenA_exit ?_ | refine thenA_normal ?_)
    refine walkL_cond rfl (fun hb => ?_) (fun hb => ?_)
    · have hlt : j < x.opens.length := by simpa using hb
      obtain ⟨s, hs⟩ : ∃ s, x.opens[j]? = some s := ⟨_, List.getElem?_eq_getElem hlt⟩
      have hw : IntKind.i64.wrap ((j : Int) + 1) = ((j + 1 : Nat) : Int) := by rw [wr_small (by omega)]; simp
      have hn : enterF (x.opens.take (j + 1)) t = if t ≤ s.hi then min (enterF (x.opens.take j) t) (max t s.lo) else enterF (x.opens.take j) t := foldl_take_succ _ _ _ _ _ hs
      repeat (first | refine walkL_seq ?_ | refine walkL_skip ?_ | refine walkL_block ?_ | (refine walkL_region fun K hK => ?_; simp (maxSteps := 4000000) only [go_sem, hs, List.getElem?_map, Span.row, hw]; refine hK _ ?_; clear hK K) | refine walkL_nil ?_ | refine walkL_ret ?_ | refine walkL_exit ?_ | refine blockA_here ?_ | refine blockA_other rfl ?_ | refine blockA_ret ?_ | refine blockA_normal ?_ | refine thenA_ret ?_ | refine thenA_exit ?_ | refine thenA_normal ?_)
      refine walkL_cond rfl (fun hc => ?_) (fun hc => ?_)
      · have hc : t ≤ s.hi := by simpa using hc
        repeat (first | refine walkL_seq ?_ | refine walkL_skip ?_ | refine walkL_block ?_ | (refine walkL_region fun K hK => ?_; simp (maxSteps := 4000000) only [go_sem, hs, List.getElem?_map, Span.row, hw]; refine hK _ ?_; clear hK K) | refine walkL_nil ?_ | refine walkL_ret ?_ | refine walkL_exit ?_ | refine blockA_here ?_ | refine blockA_other rfl ?_ | refine blockA_ret ?_ | refine blockA_normal ?_ | refine thenA_ret ?_ | refine thenA_exit ?_ | refine thenA_normal ?_)
        refine ⟨rfl, j + 1, ?_, hlt, by omega⟩
        rw [hn, if_pos hc]
        refine weak_of [] ?_ ?_ rfl rfl <;> simp [lessT, lessM, lessB, AV.less]
      · have hc : ¬ t ≤ s.hi := by simpa using hc
        repeat (first | refine walkL_seq ?_ | refine walkL_skip ?_ | refine walkL_block ?_ | (refine walkL_region fun K hK => ?_; simp (maxSteps := 4000000) only [go_sem, hs, List.getElem?_map, Span.row, hw]; refine hK _ ?_; clear hK K) | refine walkL_nil ?_ | refine walkL_ret ?_ | refine walkL_exit ?_ | refine blockA_here ?_ | refine blockA_other rfl ?_ | refine blockA_ret ?_ | refine blockA_normal ?_ | refine thenA_ret ?_ | refine thenA_exit ?_ | refine thenA_normal ?_)
        refine ⟨rfl, j + 1, ?_, hlt, by omega⟩
        rw [hn, if_neg hc]
        refine weak_of [] ?_ ?_ rfl rfl <;> simp [lessT, lessM, lessB, AV.less]
    · have he : j = x.opens.length := by have : ¬ j < x.opens.length := by simpa using hb
                                         omega
      subst he
      repeat (first | refine walkL_seq ?_ | refine walkL_skip ?_ | refine walkL_block ?_ | (refine walkL_region fun K hK => ?_; simp (maxSteps := 4000000) only [go_sem, List.take_length]; refine hK _ ?_; clear hK K) | refine walkL_nil ?_ | refine walkL_ret ?_ | refine walkL_exit ?_ | refine blockA_here ?_ | refine blockA_other rfl ?_ | refine blockA_ret ?_ | refine blockA_normal ?_ | refine thenA_ret ?_ | refine thenA_exit ?_ | refine thenA_normal ?_)
      refine walkL_cond rfl (fun hc => ?_) (fun hc => ?_)
      · have hc : wr (enterF x.opens t + time) > 2880 := by simpa using hc
        repeat (first | refine walkL_seq ?_ | refine walkL_skip ?_ | refine walkL_block ?_ | (refine walkL_region fun K hK => ?_; simp (maxSteps := 4000000) only [go_sem, List.take_length]; refine hK _ ?_; clear hK K) | refine walkL_nil ?_ | refine walkL_ret ?_ | refine walkL_exit ?_ | refine blockA_here ?_ | refine blockA_other rfl ?_ | refine blockA_ret ?_ | refine blockA_normal ?_ | refine thenA_ret ?_ | refine thenA_exit ?_ | refine thenA_normal ?_)
        simp (maxSteps := 4000000) only [go_sem, arriveF, hc]
      · have hc : ¬ wr (enterF x.opens t + time) > 2880 := by simpa using hc
        repeat (first | refine walkL_seq ?_ | refine walkL_skip ?_ | refine walkL_block ?_ | (refine walkL_region fun K hK => ?_; simp (maxSteps := 4000000) only [go_sem, List.take_length]; refine hK _ ?_; clear hK K) | refine walkL_nil ?_ | refine walkL_ret ?_ | refine walkL_exit ?_ | refine blockA_here ?_ | refine blockA_other rfl ?_ | refine blockA_ret ?_ | refine blockA_normal ?_ | refine thenA_ret ?_ | refine thenA_exit ?_ | refine thenA_normal ?_)
        simp (maxSteps := 4000000) only [go_sem, arriveF, hc]

def stepF (x : Path) (p : Party) (t : Int) (high : Bool) : Int :=
  if enterF x.opens t ≥ 1073741824 then 1073741824 else
    let a := wr (enterF x.opens t + if high then (spanW x p).hi else (spanW x p).lo)
    if a > 2880 then 1073741824 else a

theorem f35 (n : Net) (p : Party) (i : Nat) (x : Path) (t : Int) (high : Bool) (hx : n.paths[i]? = some x) (hl : x.opens.length < 2 ^ 62) : Fn Try.prog 35 [.agg n.cells, .agg p.cells, .i i, .i t, .bool high] (.i (stepF x p t high)) := by
  refine fn_walk 39 Try.call35 Try.func35 rfl (by decide) fun J => ?_
  simp (maxSteps := 4000000) only [go_sem, St.start, Try.ntmps35, Try.results35, Net.cells, Party.cells]
  repeat (first | refine walkL_seq ?_ | refine walkL_skip ?_ | refine walkL_block ?_ | (refine walkL_region fun K hK => ?_; simp (maxSteps := 4000000) only [go_sem, hx, List.getElem?_map, Path.row]; (repeat (first | (refine ⟨_, .lent (hf := f62 x t hl) (hd := rfl) (hr := rfl), ?_⟩; simp (maxSteps := 4000000) only [go_sem, hx, List.getElem?_map, Path.row]) | (refine ⟨_, .given (hf := f62 x t hl) (hd := rfl) (ha := rfl), ?_⟩; simp (maxSteps := 4000000) only [go_sem, hx, List.getElem?_map, Path.row]))); refine hK _ ?_; clear hK K) | refine walkL_nil ?_ | refine walkL_ret ?_ | refine walkL_exit ?_ | refine blockA_here ?_ | refine blockA_other rfl ?_ | refine blockA_ret ?_ | refine blockA_normal ?_ | refine thenA_ret ?_ | refine thenA_exit ?_ | refine thenA_normal ?_)
  refine walkL_cond rfl (fun hc => ?_) (fun hc => ?_)
  · have hc : enterF x.opens t ≥ 1073741824 := by simpa using hc
    repeat (first | refine walkL_seq ?_ | refine walkL_skip ?_ | refine walkL_block ?_ | (refine walkL_region fun K hK => ?_; simp (maxSteps := 4000000) only [go_sem]; refine hK _ ?_; clear hK K) | refine walkL_nil ?_ | refine walkL_ret ?_ | refine walkL_exit ?_ | refine blockA_here ?_ | refine blockA_other rfl ?_ | refine blockA_ret ?_ | refine blockA_normal ?_ | refine thenA_ret ?_ | refine thenA_exit ?_ | refine thenA_normal ?_)
    simp (maxSteps := 4000000) only [go_sem, stepF, hc]
  · have hc : ¬ enterF x.opens t ≥ 1073741824 := by simpa using hc
    repeat (first | refine walkL_seq ?_ | refine walkL_skip ?_ | refine walkL_block ?_ | (refine walkL_region fun K hK => ?_; simp (maxSteps := 4000000) only [go_sem, Span.row]; (repeat (first | (refine ⟨_, .lent (hf := f24 n p i x hx) (hd := rfl) (hr := rfl), ?_⟩; simp (maxSteps := 4000000) only [go_sem, Span.row]) | (refine ⟨_, .given (hf := f24 n p i x hx) (hd := rfl) (ha := rfl), ?_⟩; simp (maxSteps := 4000000) only [go_sem, Span.row]))); refine hK _ ?_; clear hK K) | refine walkL_nil ?_ | refine walkL_ret ?_ | refine walkL_exit ?_ | refine blockA_here ?_ | refine blockA_other rfl ?_ | refine blockA_ret ?_ | refine blockA_normal ?_ | refine thenA_ret ?_ | refine thenA_exit ?_ | refine thenA_normal ?_)
    cases high
    · refine walkL_false rfl ?_
      repeat (first | refine walkL_seq ?_ | refine walkL_skip ?_ | refine walkL_block ?_ | (refine walkL_region fun K hK => ?_; simp (maxSteps := 4000000) only [go_sem]; refine hK _ ?_; clear hK K) | refine walkL_nil ?_ | refine walkL_ret ?_ | refine walkL_exit ?_ | refine blockA_here ?_ | refine blockA_other rfl ?_ | refine blockA_ret ?_ | refine blockA_normal ?_ | refine thenA_ret ?_ | refine thenA_exit ?_ | refine thenA_normal ?_)
      refine walkL_cond rfl (fun hd => ?_) (fun hd => ?_)
      · have hd : wr (enterF x.opens t + (spanW x p).lo) > 2880 := by simpa using hd
        repeat (first | refine walkL_seq ?_ | refine walkL_skip ?_ | refine walkL_block ?_ | (refine walkL_region fun K hK => ?_; simp (maxSteps := 4000000) only [go_sem]; refine hK _ ?_; clear hK K) | refine walkL_nil ?_ | refine walkL_ret ?_ | refine walkL_exit ?_ | refine blockA_here ?_ | refine blockA_other rfl ?_ | refine blockA_ret ?_ | refine blockA_normal ?_ | refine thenA_ret ?_ | refine thenA_exit ?_ | refine thenA_normal ?_)
        simp (maxSteps := 4000000) only [go_sem, stepF, hc, hd]
      · have hd : ¬ wr (enterF x.opens t + (spanW x p).lo) > 2880 := by simpa using hd
        repeat (first | refine walkL_seq ?_ | refine walkL_skip ?_ | refine walkL_block ?_ | (refine walkL_region fun K hK => ?_; simp (maxSteps := 4000000) only [go_sem]; refine hK _ ?_; clear hK K) | refine walkL_nil ?_ | refine walkL_ret ?_ | refine walkL_exit ?_ | refine blockA_here ?_ | refine blockA_other rfl ?_ | refine blockA_ret ?_ | refine blockA_normal ?_ | refine thenA_ret ?_ | refine thenA_exit ?_ | refine thenA_normal ?_)
        simp (maxSteps := 4000000) only [go_sem, stepF, hc, hd]
    · refine walkL_true rfl ?_
      repeat (first | refine walkL_seq ?_ | refine walkL_skip ?_ | refine walkL_block ?_ | (refine walkL_region fun K hK => ?_; simp (maxSteps := 4000000) only [go_sem]; refine hK _ ?_; clear hK K) | refine walkL_nil ?_ | refine walkL_ret ?_ | refine walkL_exit ?_ | refine blockA_here ?_ | refine blockA_other rfl ?_ | refine blockA_ret ?_ | refine blockA_normal ?_ | refine thenA_ret ?_ | refine thenA_exit ?_ | refine thenA_normal ?_)
      refine walkL_cond rfl (fun hd => ?_) (fun hd => ?_)
      · have hd : wr (enterF x.opens t + (spanW x p).hi) > 2880 := by simpa using hd
        repeat (first | refine walkL_seq ?_ | refine walkL_skip ?_ | refine walkL_block ?_ | (refine walkL_region fun K hK => ?_; simp (maxSteps := 4000000) only [go_sem]; refine hK _ ?_; clear hK K) | refine walkL_nil ?_ | refine walkL_ret ?_ | refine walkL_exit ?_ | refine blockA_here ?_ | refine blockA_other rfl ?_ | refine blockA_ret ?_ | refine blockA_normal ?_ | refine thenA_ret ?_ | refine thenA_exit ?_ | refine thenA_normal ?_)
        simp (maxSteps := 4000000) only [go_sem, stepF, hc, hd]
      · have hd : ¬ wr (enterF x.opens t + (spanW x p).hi) > 2880 := by simpa using hd
        repeat (first | refine walkL_seq ?_ | refine walkL_skip ?_ | refine walkL_block ?_ | (refine walkL_region fun K hK => ?_; simp (maxSteps := 4000000) only [go_sem]; refine hK _ ?_; clear hK K) | refine walkL_nil ?_ | refine walkL_ret ?_ | refine walkL_exit ?_ | refine blockA_here ?_ | refine blockA_other rfl ?_ | refine blockA_ret ?_ | refine blockA_normal ?_ | refine thenA_ret ?_ | refine thenA_exit ?_ | refine thenA_normal ?_)
        simp (maxSteps := 4000000) only [go_sem, stepF, hc, hd]
end Go.Ab
namespace Go.Ab
open Go.RowKit Go.Proofs

/-- The paths that the party can walk, but one. -/
def waysFrom (p : Party) (but : Int) : List Path → Nat → List (Nat × Path)
  | [], _ => []
  | x :: xs, i => if (i : Int) ≠ but ∧ x.grade ≤ p.grade then (i, x) :: waysFrom p but xs (i + 1) else waysFrom p but xs (i + 1)

def waysL (n : Net) (p : Party) (but : Int) : List (Nat × Path) := waysFrom p but n.paths 0
def wayRow (x : Nat × Path) : List DV := [.i x.1, .agg x.2.row]

theorem f48 (n : Net) (p : Party) (but : Int) : Fn Try.prog 48 [.agg (walkCells n p), .i but] (.fn 87 [.ptr (walkCells n p) 0, .ptr [.i but] 0]) := by
  refine fn_walk 6 Try.call48 Try.func48 rfl (by decide) fun J => ?_
  simp (maxSteps := 4000000) only [go_sem, St.start, Try.ntmps48, Try.results48, walkCells]
  repeat (first | refine walkL_seq ?_ | refine walkL_skip ?_ | refine walkL_block ?_ | (refine walkL_region fun K hK => ?_; simp (maxSteps := 4000000) only [go_sem]; refine hK _ ?_; clear hK K) | refine walkL_nil ?_ | refine walkL_ret ?_ | refine walkL_exit ?_ | refine blockA_here ?_ | refine blockA_other rfl ?_ | refine blockA_ret ?_ | refine blockA_normal ?_ | refine thenA_ret ?_ | refine thenA_exit ?_ | refine thenA_normal ?_)
  simp (maxSteps := 4000000) only [go_sem, walkCells]

theorem iter87 (n : Net) (p : Party) (but : Int) (hl : n.paths.length < 2 ^ 62) : Iter Try.prog 87 [.ptr (walkCells n p) 0, .ptr [.i but] 0] ((waysL n p but).map wayRow) := by
  refine iter_walk 31 Try.call87 Try.func87 rfl rfl fun l J B hS hG => ?_
  simp (maxSteps := 4000000) only [go_sem, St.start, Try.ntmps87, walkCells]
  repeat (first | refine walkL_seq ?_ | refine walkL_skip ?_ | refine walkL_block ?_ | (refine walkL_region fun K hK => ?_; simp (maxSteps := 4000000) only [go_sem]; refine hK _ ?_; clear hK K) | refine walkL_nil ?_ | refine walkL_ret ?_ | refine walkL_exit ?_ | refine blockA_here ?_ | refine blockA_other rfl ?_ | refine blockA_ret ?_ | refine blockA_normal ?_ | refine thenA_ret ?_ | refine thenA_exit ?_ | refine thenA_normal ?_)
  refine walkL_loopK (fun (j : Nat) => [(10, .d (.i j))]) (fun _ => []) (fun k j => j ≤ n.paths.length ∧ ∃ kk, k = some kk ∧ kk ≤ (waysL n p but).length ∧ (waysL n p but).drop kk = waysFrom p but (n.paths.drop j) j) (fun j => n.paths.length - j) 0 ?_ ⟨Nat.zero_le _, 0, rfl, Nat.zero_le _, rfl⟩ ?_
  · simp (maxSteps := 4000000) only [go_sem]
    refine weak_of [] ?_ ?_ rfl rfl <;> simp [lessT, lessM, lessB, AV.less]
  · rintro k j ⟨hj, kk, rfl, hkk, hd⟩
    simp (maxSteps := 4000000) only [go_sem]
    repeat (first | refine walkL_seq ?_ | refine walkL_skip ?_ | refine walkL_block ?_ | (refine walkL_region fun K hK => ?_; simp (maxSteps := 4000000) only [go_sem]; refine hK _ ?_; clear hK K) | refine walkL_nil ?_ | refine walkL_ret ?_ | refine walkL_exit ?_ | refine blockA_here ?_ | refine blockA_other rfl ?_ | refine blockA_ret ?_ | refine blockA_normal ?_ | refine thenA_ret ?_ | refine thenA_exit ?_ | refine thenA_normal ?_)
    refine walkL_cond rfl (fun hb => ?_) (fun hb => ?_)
    · have hlt : j < n.paths.length := by simpa using hb
      obtain ⟨x, hx⟩ : ∃ x, n.paths[j]? = some x := ⟨_, List.getElem?_eq_getElem hlt⟩
      have hw : IntKind.i64.wrap ((j : Int) + 1) = ((j + 1 : Nat) : Int) := by rw [wr_small (by omega)]; simp
      rw [drop_get hx, waysFrom] at hd
      have h74 := f74 n p j x hx
      repeat (first | refine walkL_seq ?_ | refine walkL_skip ?_ | refine walkL_block ?_ | (refine walkL_region fun K hK => ?_; simp (maxSteps := 4000000) only [go_sem, hx, List.getElem?_map, Path.row]; refine hK _ ?_; clear hK K) | refine walkL_nil ?_ | refine walkL_ret ?_ | refine walkL_exit ?_ | refine blockA_here ?_ | refine blockA_other rfl ?_ | refine blockA_ret ?_ | refine blockA_normal ?_ | refine thenA_ret ?_ | refine thenA_exit ?_ | refine thenA_normal ?_)
      refine walkL_regionY hS hG fun K hK => ?_
      by_cases hbut : (j : Int) = but
      · have hbe : ((j : Int) != but) = false := by simp [hbut]
        rw [if_neg (by simp [hbut])] at hd
        simp (maxSteps := 4000000) only [go_sem, hbe]
        refine hK _ _ ?_
        clear hK K
        refine walkL_false rfl ?_
        repeat (first | refine walkL_seq ?_ | refine walkL_skip ?_ | refine walkL_block ?_ | (refine walkL_region fun K hK => ?_; simp (maxSteps := 4000000) only [go_sem, hw]; refine hK _ ?_; clear hK K) | refine walkL_nil ?_ | refine walkL_ret ?_ | refine walkL_exit ?_ | refine blockA_here ?_ | refine blockA_other rfl ?_ | refine blockA_ret ?_ | refine blockA_normal ?_ | refine thenA_ret ?_ | refine thenA_exit ?_ | refine thenA_normal ?_)
        refine ⟨j + 1, ?_, ⟨hlt, kk, rfl, hkk, hd⟩, by omega⟩
        refine weak_of [] ?_ ?_ rfl rfl <;> simp [lessT, lessM, lessB, AV.less]
      · have hbe : ((j : Int) != but) = true := by simpa using hbut
        simp (maxSteps := 4000000) only [go_sem, hbe]
        refine ⟨_, .lent (hf := h74) (hd := rfl) (hr := rfl), ?_⟩
        by_cases hg : x.grade ≤ p.grade
        · rw [if_pos ⟨hbut, hg⟩] at hd
          have hkl : kk < (waysL n p but).length := by
            rcases Nat.lt_or_ge kk (waysL n p but).length with h | h
            · exact h
            · rw [List.drop_eq_nil_of_le h] at hd; cases hd
          have hget : (waysL n p but)[kk]? = some (j, x) := by
            have := congrArg (fun l => l[0]?) hd
            simpa using this
          have hd2 : (waysL n p but).drop (kk + 1) = waysFrom p but (n.paths.drop (j + 1)) (j + 1) := by
            have := congrArg (List.drop 1) hd
            simpa [Nat.add_comm] using this
          simp (maxSteps := 4000000) only [go_sem, hg]
          refine ⟨rfl, kk, wayRow (j, x), rfl, rfl, by rw [List.getElem?_map, hget]; rfl, ?_, ?_⟩
          · simp (maxSteps := 4000000) only [go_sem]
            refine hK _ _ ?_
            clear hK K
            refine walkL_false rfl ?_
            repeat (first | refine walkL_seq ?_ | refine walkL_skip ?_ | refine walkL_block ?_ | (refine walkL_region fun K hK => ?_; simp (maxSteps := 4000000) only [go_sem, hw]; refine hK _ ?_; clear hK K) | refine walkL_nil ?_ | refine walkL_ret ?_ | refine walkL_exit ?_ | refine blockA_here ?_ | refine blockA_other rfl ?_ | refine blockA_ret ?_ | refine blockA_normal ?_ | refine thenA_ret ?_ | refine thenA_exit ?_ | refine thenA_normal ?_)
            refine ⟨j + 1, ?_, ⟨hlt, kk + 1, rfl, hkl, hd2⟩, by omega⟩
            refine weak_of [] ?_ ?_ rfl rfl <;> simp [lessT, lessM, lessB, AV.less]
          · simp (maxSteps := 4000000) only [go_sem]
            refine hK _ _ ?_
            clear hK K
            refine walkL_true rfl ?_
            repeat (first | refine walkL_seq ?_ | refine walkL_skip ?_ | refine walkL_block ?_ | (refine walkL_region fun K hK => ?_; simp (maxSteps := 4000000) only [go_sem]; refine hK _ ?_; clear hK K) | refine walkL_nil ?_ | refine walkL_ret ?_ | refine walkL_exit ?_ | refine blockA_here ?_ | refine blockA_other rfl ?_ | refine blockA_ret ?_ | refine blockA_normal ?_ | refine thenA_ret ?_ | refine thenA_exit ?_ | refine thenA_normal ?_)
            exact ⟨trivial, .inr rfl⟩
        · rw [if_neg (by simp [hg])] at hd
          simp (maxSteps := 4000000) only [go_sem, hg]
          refine hK _ _ ?_
          clear hK K
          refine walkL_false rfl ?_
          repeat (first | refine walkL_seq ?_ | refine walkL_skip ?_ | refine walkL_block ?_ | (refine walkL_region fun K hK => ?_; simp (maxSteps := 4000000) only [go_sem, hw]; refine hK _ ?_; clear hK K) | refine walkL_nil ?_ | refine walkL_ret ?_ | refine walkL_exit ?_ | refine blockA_here ?_ | refine blockA_other rfl ?_ | refine blockA_ret ?_ | refine blockA_normal ?_ | refine thenA_ret ?_ | refine thenA_exit ?_ | refine thenA_normal ?_)
          refine ⟨j + 1, ?_, ⟨hlt, kk, rfl, hkk, hd⟩, by omega⟩
          refine weak_of [] ?_ ?_ rfl rfl <;> simp [lessT, lessM, lessB, AV.less]
    · have he : j = n.paths.length := by have : ¬ j < n.paths.length := by simpa using hb
                                         omega
      subst he
      repeat (first | refine walkL_seq ?_ | refine walkL_skip ?_ | refine walkL_block ?_ | (refine walkL_region fun K hK => ?_; simp (maxSteps := 4000000) only [go_sem]; refine hK _ ?_; clear hK K) | refine walkL_nil ?_ | refine walkL_ret ?_ | refine walkL_exit ?_ | refine blockA_here ?_ | refine blockA_other rfl ?_ | refine blockA_ret ?_ | refine blockA_normal ?_ | refine thenA_ret ?_ | refine thenA_exit ?_ | refine thenA_normal ?_)
      refine ⟨trivial, .inl ?_⟩
      rw [List.drop_length, waysFrom, List.drop_eq_nil_iff] at hd
      simp only [List.length_map, Option.some.injEq]
      omega
end Go.Ab
namespace Go.Ab
open Go.RowKit Go.Proofs

theorem mask_nat (m : Nat) (h : m < 2 ^ 32) : bAnd .u64 (m : Int) 4294967295 = (m : Int) := by
  have h1 : (BitVec.ofInt 64 (m : Int) &&& BitVec.ofInt 64 4294967295).toNat = m := by
    rw [BitVec.toNat_and]
    have e1 : (BitVec.ofInt 64 (m : Int)).toNat = m := by simp [BitVec.toNat_ofInt]; omega
    have e2 : (BitVec.ofInt 64 4294967295).toNat = 2 ^ 32 - 1 := by decide
    rw [e1, e2, Nat.and_two_pow_sub_one_eq_mod, Nat.mod_eq_of_lt h]
  show IntKind.u64.wrap ((BitVec.ofInt 64 (m : Int) &&& BitVec.ofInt 64 4294967295).toNat : Int) = (m : Int)
  rw [h1, IntKind.wrap_u64]
  omega

theorem wu_small (m : Nat) (h : m < 2 ^ 63) : IntKind.u64.wrap (m : Int) = (m : Int) := by rw [IntKind.wrap_u64]; omega

theorem f95 (m : Nat) (h : m < 2 ^ 32) : Fn Try.prog 95 [.int .u64 1, .int .u64 m] (.tup [.int .u64 0, .int .u64 m]) := by
  refine fn_walk 51 Try.call95 Try.func95 rfl (by decide) fun J => ?_
  simp (maxSteps := 4000000) only [go_sem, St.start, Try.ntmps95, Try.results95]
  have h1 : bAnd .u64 1 4294967295 = 1 := by decide
  have h2 : bAnd .u64 (m : Int) 4294967295 = m := mask_nat m h
  have h3 : IntKind.u64.wrap (m : Int) = m := wu_small m (by omega)
  have h4 : bShr .u64 (m : Int) 32 = 0 := by
    show Int.fdiv (m : Int) 4294967296 = 0
    rw [Int.fdiv_eq_ediv_of_nonneg _ (by omega)]
    omega
  have h5 : bShr .u64 1 32 = 0 := by decide
  have h6 : bShr .u64 0 32 = 0 := by decide
  have h7 : IntKind.u64.wrap (0 : Int) = 0 := by decide
  have h8 : bAnd .u64 0 4294967295 = 0 := by decide
  repeat (first | refine walkL_seq ?_ | refine walkL_skip ?_ | refine walkL_block ?_ | (refine walkL_region fun K hK => ?_; simp (maxSteps := 4000000) only [go_sem, h1, h2, h3, h4, h5, h6, h7, h8, Int.one_mul, Int.mul_one, Int.zero_mul, Int.mul_zero, Int.add_zero, Int.zero_add]; refine hK _ ?_; clear hK K) | refine walkL_nil ?_ | refine walkL_ret ?_ | refine walkL_exit ?_ | refine blockA_here ?_ | refine blockA_other rfl ?_ | refine blockA_ret ?_ | refine blockA_normal ?_ | refine thenA_ret ?_ | refine thenA_exit ?_ | refine thenA_normal ?_)
  simp (maxSteps := 4000000) only [go_sem]

theorem f86 (m : Nat) (h : m < 2 ^ 32) : Fn Try.prog 86 [.int .u64 1, .int .u64 m] (.tup [.int .u64 0, .int .u64 m]) := by
  refine fn_walk 30 Try.call86 Try.func86 rfl (by decide) fun J => ?_
  simp (maxSteps := 4000000) only [go_sem, St.start, Try.ntmps86, Try.results86]
  repeat (first | refine walkL_seq ?_ | refine walkL_skip ?_ | refine walkL_block ?_ | (refine walkL_region fun K hK => ?_; simp (maxSteps := 4000000) only [go_sem]; refine hK _ ?_; clear hK K) | refine walkL_nil ?_ | refine walkL_ret ?_ | refine walkL_exit ?_ | refine blockA_here ?_ | refine blockA_other rfl ?_ | refine blockA_ret ?_ | refine blockA_normal ?_ | refine thenA_ret ?_ | refine thenA_exit ?_ | refine thenA_normal ?_)
  refine walkL_false rfl ?_
  repeat (first | refine walkL_seq ?_ | refine walkL_skip ?_ | refine walkL_block ?_ | (refine walkL_region fun K hK => ?_; simp (maxSteps := 4000000) only [go_sem]; (repeat (first | (refine ⟨_, .lent (hf := f95 m h) (hd := rfl) (hr := rfl), ?_⟩; simp (maxSteps := 4000000) only [go_sem]) | (refine ⟨_, .given (hf := f95 m h) (hd := rfl) (ha := rfl), ?_⟩; simp (maxSteps := 4000000) only [go_sem]))); refine hK _ ?_; clear hK K) | refine walkL_nil ?_ | refine walkL_ret ?_ | refine walkL_exit ?_ | refine blockA_here ?_ | refine blockA_other rfl ?_ | refine blockA_ret ?_ | refine blockA_normal ?_ | refine thenA_ret ?_ | refine thenA_exit ?_ | refine thenA_normal ?_)
  simp (maxSteps := 4000000) only [go_sem]

/-- So many elements are filled. -/
def filled (c : Int) (m i : Nat) : List (List DV) := List.replicate i [.i c] ++ List.replicate (m - i) [.i 0]

theorem filled_len (c : Int) (m i : Nat) (h : i ≤ m) : (filled c m i).length = m := by simp [filled]; omega

theorem filled_take (c : Int) (m i : Nat) : (filled c m i).take i = List.replicate i [.i c] := by simp [filled, List.take_append]

theorem filled_drop (c : Int) (m i k : Nat) : (filled c m i).drop (i + k) = List.replicate (m - (i + k)) [.i 0] := by
  simp only [filled, List.drop_append, List.length_replicate, List.drop_replicate]
  rw [show i - (i + k) = 0 by omega, show i + k - i = k by omega, show m - i - k = m - (i + k) by omega]
  rfl

theorem filled_step (c : Int) (m i k : Nat) (hk : k ≤ i) : (filled c m i).take i ++ ((List.replicate i [DV.i c]).take k ++ (filled c m i).drop (i + k)) = filled c m (i + k) := by
  rw [filled_take, filled_drop, List.take_replicate, show min k i = k by omega, ← List.append_assoc, List.replicate_append_replicate]
  rfl

theorem filled_init (c : Int) (m : Nat) : List.take (min 1 m) [[DV.i c]] ++ List.drop (min 1 m) (List.replicate m [DV.i 0]) = filled c m (min 1 m) := by
  rcases Nat.eq_zero_or_pos m with h | h
  · subst h; rfl
  · rw [show min 1 m = 1 by omega]
    simp [filled]

theorem f47 (c : Int) (m : Nat) (h : m < 2 ^ 30) : FnS Try.prog 47 [.sl [[.i c]], .i m] 3 1 (List.replicate m [.i c]) := by
  refine fnS_walk 48 Try.call47 Try.func47 rfl (by decide) fun J => ?_
  simp (maxSteps := 4000000) only [go_sem, St.start, Try.ntmps47, Try.results47]
  have h1 : ¬ ((m : Int) < 0) := by omega
  have h2 : IntKind.u64.wrap (m : Int) = m := wu_small m (by omega)
  have h3 : IntKind.i64.wrap (m : Int) = m := wr_small (by omega)
  have h4 : ¬ (9223372036854775807 < (m : Int)) := by omega
  have h5 : IntKind.u64.wrap (1 : Int) = 1 := by decide
  have h6 : (m : Int) ≤ 2 ^ 40 := by omega
  repeat (first | refine walkL_seq ?_ | refine walkL_skip ?_ | refine walkL_block ?_ | (refine walkL_region fun K hK => ?_; simp (maxSteps := 4000000) only [go_sem, h1]; refine hK _ ?_; clear hK K) | refine walkL_nil ?_ | refine walkL_ret ?_ | refine walkL_exit ?_ | refine blockA_here ?_ | refine blockA_other rfl ?_ | refine blockA_ret ?_ | refine blockA_normal ?_ | refine thenA_ret ?_ | refine thenA_exit ?_ | refine thenA_normal ?_)
  refine walkL_false rfl ?_
  repeat (first | refine walkL_seq ?_ | refine walkL_skip ?_ | refine walkL_block ?_ | (refine walkL_region fun K hK => ?_; simp (maxSteps := 4000000) only [go_sem, h2, h5, h4, gt_iff_lt, Int.lt_irrefl]; (repeat (first | (refine ⟨_, .lent (hf := f86 m (by omega)) (hd := rfl) (hr := rfl), ?_⟩; simp (maxSteps := 4000000) only [go_sem, h2, h5, h4, gt_iff_lt, Int.lt_irrefl]) | (refine ⟨_, .given (hf := f86 m (by omega)) (hd := rfl) (ha := rfl), ?_⟩; simp (maxSteps := 4000000) only [go_sem, h2, h5, h4, gt_iff_lt, Int.lt_irrefl]))); refine hK _ ?_; clear hK K) | refine walkL_nil ?_ | refine walkL_ret ?_ | refine walkL_exit ?_ | refine blockA_here ?_ | refine blockA_other rfl ?_ | refine blockA_ret ?_ | refine blockA_normal ?_ | refine thenA_ret ?_ | refine thenA_exit ?_ | refine thenA_normal ?_)
  refine walkL_false rfl ?_
  have h7 : (m : Int) ≤ 1099511627776 := by omega
  repeat (first | refine walkL_seq ?_ | refine walkL_skip ?_ | refine walkL_block ?_ | (refine walkL_region fun K hK => ?_; simp (maxSteps := 4000000) only [go_sem, h3, h7, h1]; refine hK _ ?_; clear hK K) | refine walkL_nil ?_ | refine walkL_ret ?_ | refine walkL_exit ?_ | refine blockA_here ?_ | refine blockA_other rfl ?_ | refine blockA_ret ?_ | refine blockA_normal ?_ | refine thenA_ret ?_ | refine thenA_exit ?_ | refine thenA_normal ?_)
  refine walkL_loopS (fun (i : Nat) => [(7, .own 30), (30, .own 30), (31, .own 30), (8, .d (.i i))]) (fun i => [(30, some (.arr 3 1 (filled c m i)))]) (fun i => i ≤ m ∧ (i = 0 → m = 0)) (fun i => m - i) (min 1 m) ?_ (by omega) ?_
  · simp (maxSteps := 4000000) only [go_sem]
    rw [show List.take (min 1 m) [[DV.i c]] ++ List.drop (min 1 m) (List.replicate m [DV.int IntKind.i64 0]) = filled c m (min 1 m) from filled_init c m]
    refine weak_of [] ?_ ?_ rfl rfl <;> simp [lessT, lessM, lessB, AV.less]
  · intro i ⟨hi, hi0⟩
    have hl := filled_len c m i hi
    simp (maxSteps := 4000000) only [go_sem]
    repeat (first | refine walkL_seq ?_ | refine walkL_skip ?_ | refine walkL_block ?_ | (refine walkL_region fun K hK => ?_; simp (maxSteps := 4000000) only [go_sem, hl]; refine hK _ ?_; clear hK K) | refine walkL_nil ?_ | refine walkL_ret ?_ | refine walkL_exit ?_ | refine blockA_here ?_ | refine blockA_other rfl ?_ | refine blockA_ret ?_ | refine blockA_normal ?_ | refine thenA_ret ?_ | refine thenA_exit ?_ | refine thenA_normal ?_)
    refine walkL_cond rfl (fun hb => ?_) (fun hb => ?_)
    · have hlt : i < m := by simpa using hb
      have e1 : (i : Int) ≤ (m : Int) := by omega
      have e2 : i + (m - i) ≤ m := by omega
      have e3 : i ≤ m := hi
      have e4 : min i (m - i) ≤ i := by omega
      have hs := filled_step c m i (min i (m - i)) e4
      have hw : IntKind.i64.wrap ((i : Int) + ((min i (m - i) : Nat) : Int)) = ((i + min i (m - i) : Nat) : Int) := by rw [wr_small (by omega)]; simp
      rw [filled_take] at hs
      have e5 : ∀ k, headIs 1 (List.replicate k [DV.i c]) = true := fun k => by cases k <;> rfl
      repeat (first | refine walkL_seq ?_ | refine walkL_skip ?_ | refine walkL_block ?_ | (refine walkL_region fun K hK => ?_; simp (maxSteps := 4000000) only [go_sem]; refine hK _ ?_; clear hK K) | refine walkL_nil ?_ | refine walkL_ret ?_ | refine walkL_exit ?_ | refine blockA_here ?_ | refine blockA_other rfl ?_ | refine blockA_ret ?_ | refine blockA_normal ?_ | refine thenA_ret ?_ | refine thenA_exit ?_ | refine thenA_normal ?_)
      refine walkL_drawn (by kernel_rfl) (by kernel_rfl) fun K hK => ?_
      simp (maxSteps := 4000000) only [go_sem, hl, e1, e2, e3, hw, filled_take, Nat.sub_zero, List.drop_zero, hs]
      refine ⟨e5 i, by kernel_rfl, hK _ ?_⟩
      clear hK K
      repeat (first | refine walkL_seq ?_ | refine walkL_skip ?_ | refine walkL_block ?_ | (refine walkL_region fun K hK => ?_; simp (maxSteps := 4000000) only [go_sem]; refine hK _ ?_; clear hK K) | refine walkL_nil ?_ | refine walkL_ret ?_ | refine walkL_exit ?_ | refine blockA_here ?_ | refine blockA_other rfl ?_ | refine blockA_ret ?_ | refine blockA_normal ?_ | refine thenA_ret ?_ | refine thenA_exit ?_ | refine thenA_normal ?_)
      refine ⟨rfl, i + min i (m - i), ?_, by omega, by omega⟩
      refine weak_of [] ?_ ?_ rfl rfl <;> simp [lessT, lessM, lessB, AV.less]
    · have he : i = m := by have : ¬ i < m := by simpa using hb
                            omega
      subst he
      repeat (first | refine walkL_seq ?_ | refine walkL_skip ?_ | refine walkL_block ?_ | (refine walkL_region fun K hK => ?_; simp (maxSteps := 4000000) only [go_sem]; refine hK _ ?_; clear hK K) | refine walkL_nil ?_ | refine walkL_ret ?_ | refine walkL_exit ?_ | refine blockA_here ?_ | refine blockA_other rfl ?_ | refine blockA_ret ?_ | refine blockA_normal ?_ | refine thenA_ret ?_ | refine thenA_exit ?_ | refine thenA_normal ?_)
      simp (maxSteps := 4000000) only [go_sem, filled, Nat.sub_self, List.replicate]
end Go.Ab
namespace Go.Ab
open Go.RowKit Go.Proofs

/-- A list of numbers, as a slice's rows. -/
def intRows (l : List Int) : List (List DV) := l.map fun x => [.i x]
def getI (l : List Int) (i : Int) : Int := l.getD i.toNat 0

theorem intRows_get {l : List Int} {i : Int} (h0 : 0 ≤ i) (h1 : i.toNat < l.length) : (intRows l)[i.toNat]? = some [.i (getI l i)] := by
  simp [intRows, getI, h1]

theorem intRows_len (l : List Int) : (intRows l).length = l.length := by simp [intRows]
theorem rowsFlat_int (l : List Int) : rowsFlat (intRows l) := by
  intro r hr d hd
  obtain ⟨x, _, rfl⟩ := List.mem_map.1 hr
  simp at hd; subst hd; rfl
theorem intRows_set (l : List Int) (k : Nat) (x : Int) : (intRows l).set k [.i x] = intRows (l.set k x) := by simp [intRows, List.map_set]
theorem intRows_replicate (m : Nat) (c : Int) : List.replicate m [DV.i c] = intRows (List.replicate m c) := by simp [intRows]

/-- A net whose paths lie between its places, of no more than so many. -/
structure Net.Ok (n : Net) : Prop where
  places : 0 ≤ n.places ∧ n.places < 2 ^ 20
  paths : n.paths.length < 2 ^ 20
  frm : ∀ x ∈ n.paths, 0 ≤ x.frm ∧ x.frm < n.places
  to : ∀ x ∈ n.paths, 0 ≤ x.to ∧ x.to < n.places
  opens : ∀ x ∈ n.paths, x.opens.length < 2 ^ 20

theorem waysFrom_mem (p : Party) (but : Int) : ∀ (l : List Path) (i : Nat) (w : Nat × Path), w ∈ waysFrom p but l i → i ≤ w.1 ∧ l[w.1 - i]? = some w.2 ∧ w.2.grade ≤ p.grade ∧ (w.1 : Int) ≠ but
  | [], _, _, h => by simp [waysFrom] at h
  | x :: xs, i, w, h => by
    unfold waysFrom at h
    split at h
    · rename_i hc
      rcases List.mem_cons.1 h with rfl | h
      · exact ⟨Nat.le_refl _, by simp, hc.2, hc.1⟩
      · obtain ⟨h1, h2, h3, h4⟩ := waysFrom_mem p but xs (i + 1) w h
        exact ⟨by omega, by rw [show w.1 - i = (w.1 - (i + 1)) + 1 by omega]; simpa using h2, h3, h4⟩
    · obtain ⟨h1, h2, h3, h4⟩ := waysFrom_mem p but xs (i + 1) w h
      exact ⟨by omega, by rw [show w.1 - i = (w.1 - (i + 1)) + 1 by omega]; simpa using h2, h3, h4⟩

theorem waysL_get {n : Net} {p : Party} {but : Int} {w : Nat × Path} (h : w ∈ waysL n p but) : n.paths[w.1]? = some w.2 := by
  have := (waysFrom_mem p but n.paths 0 w h).2.1
  simpa using this

/-- One path, in a pass of deadlines: what each place's minute becomes, and whether any has changed. -/
def relaxD (p : Party) (a : List Int × Bool) (w : Nat × Path) : List Int × Bool :=
  let t := latestF w.2.opens (wr (getI a.1 w.2.to - (spanW w.2 p).hi))
  if t > getI a.1 w.2.frm then (a.1.set w.2.frm.toNat t, true) else a

def passD (n : Net) (p : Party) (l : List Int) : List Int × Bool := (waysL n p (-1)).foldl (relaxD p) (l, false)

theorem relaxD_len (p : Party) (a : List Int × Bool) (w : Nat × Path) : (relaxD p a w).1.length = a.1.length := by
  unfold relaxD; dsimp only; split <;> simp

theorem foldD_len (p : Party) : ∀ (ws : List (Nat × Path)) (a : List Int × Bool), (ws.foldl (relaxD p) a).1.length = a.1.length
  | [], _ => rfl
  | w :: ws, a => by rw [List.foldl_cons, foldD_len p ws, relaxD_len]
end Go.Ab
namespace Go.Ab
open Go.RowKit Go.Proofs

/-- How far a list of minutes still can rise. -/
def riseM (l : List Int) : Nat := (l.map fun x => (2881 - x).toNat).sum

theorem riseM_set : ∀ (l : List Int) (k : Nat) (t x : Int), l[k]? = some x → x < t → t ≤ 2880 → riseM (l.set k t) < riseM l
  | [], _, _, _, h, _, _ => by simp at h
  | a :: l, 0, t, x, h, h1, h2 => by
    simp at h; subst h
    simp only [riseM, List.set_cons_zero, List.map_cons, List.sum_cons]
    omega
  | a :: l, k + 1, t, x, h, h1, h2 => by
    have := riseM_set l k t x (by simpa using h) h1 h2
    simp only [riseM, List.set_cons_succ, List.map_cons, List.sum_cons] at this ⊢
    omega

theorem latestF_le (b : Int) : ∀ (opens : List Span) (last : Int), last ≤ 2880 → (∀ s ∈ opens, s.hi ≤ 2880) → opens.foldl (fun last s => if s.lo ≤ b then max last (min s.hi b) else last) last ≤ 2880
  | [], last, h, _ => h
  | s :: opens, last, h, hs => by
    rw [List.foldl_cons]
    refine latestF_le b opens _ ?_ (fun s' h' => hs s' (List.mem_cons_of_mem _ h'))
    have := hs s (List.mem_cons_self ..)
    split <;> omega

/-- Passes, till one changes nothing; so many at most. -/
def fixD (n : Net) (p : Party) : Nat → List Int → List Int
  | 0, l => l
  | k + 1, l => if (passD n p l).2 then fixD n p k (passD n p l).1 else (passD n p l).1

def deadlines0 (n : Net) (to b : Int) : List Int := (List.replicate n.places.toNat (-1)).set to.toNat b
def deadlinesL (n : Net) (p : Party) (to b : Int) : List Int := fixD n p (riseM (deadlines0 n to b) + 1) (deadlines0 n to b)

theorem foldD_M (p : Party) : ∀ (ws : List (Nat × Path)) (a : List Int × Bool), (∀ w ∈ ws, 0 ≤ w.2.frm ∧ w.2.frm.toNat < a.1.length ∧ ∀ s ∈ w.2.opens, s.hi ≤ 2880) →
    riseM (ws.foldl (relaxD p) a).1 ≤ riseM a.1 ∧ (a.2 = false → (ws.foldl (relaxD p) a).2 = true → riseM (ws.foldl (relaxD p) a).1 < riseM a.1)
  | [], a, _ => ⟨Nat.le_refl _, fun h1 h2 => by simp only [List.foldl_nil] at h2; rw [h1] at h2; cases h2⟩
  | w :: ws, a, h => by
    obtain ⟨h1, h2, h3⟩ := h w (List.mem_cons_self ..)
    have ih := foldD_M p ws (relaxD p a w) (fun w' h' => by rw [relaxD_len]; exact h w' (List.mem_cons_of_mem _ h'))
    rw [List.foldl_cons]
    by_cases hc : latestF w.2.opens (wr (getI a.1 w.2.to - (spanW w.2 p).hi)) > getI a.1 w.2.frm
    · have he : relaxD p a w = (a.1.set w.2.frm.toNat (latestF w.2.opens (wr (getI a.1 w.2.to - (spanW w.2 p).hi))), true) := by unfold relaxD; dsimp only; rw [if_pos hc]
      have hlt : riseM (relaxD p a w).1 < riseM a.1 := by
        rw [he]
        exact riseM_set a.1 _ _ (getI a.1 w.2.frm) (by simp [getI, h2]) hc (latestF_le _ _ _ (by omega) h3)
      exact ⟨by omega, fun _ _ => by omega⟩
    · have he : relaxD p a w = a := by unfold relaxD; dsimp only; rw [if_neg hc]
      rw [he] at ih ⊢
      exact ih
end Go.Ab
namespace Go.Ab
open Go.RowKit Go.Proofs
attribute [local irreducible] WalkL Walk

theorem walkL_forget {P : Program} {rd : Option Nat} {n : Nat} {J : Env} {c : Code} {cs : List Code} {k : Option Nat} {st : St} {Q : Exit → Option Nat → St → Prop} (ds : List Nat) (hw : Weak st (st.head ds [] [])) (h : WalkL P rd n J (c :: cs) k (st.head ds [] []) Q) :
    WalkL P rd n J (c :: cs) k st Q := walkL_weak hw h

theorem f54 (n : Net) (p : Party) (to b : Int) (hn : n.Ok) (hhi : ∀ x ∈ n.paths, ∀ s ∈ x.opens, s.hi ≤ 2880) (hto : 0 ≤ to ∧ to < n.places) : FnS Try.prog 54 [.agg (walkCells n p), .i to, .i b] 3 1 (intRows (deadlinesL n p to b)) := by
  obtain ⟨m, hm⟩ : ∃ m : Nat, n.places = m := ⟨n.places.toNat, by have := hn.places.1; omega⟩
  have hpl := hn.places
  refine fnS_walk 48 Try.call54 Try.func54 rfl (by decide) fun J => ?_
  simp (maxSteps := 4000000) only [go_sem, St.start, Try.ntmps54, Try.results54, walkCells]
  refine walkL_seq ?_
  refine walkL_region fun K hK => ?_
  simp (maxSteps := 4000000) only [go_sem]
  refine hK _ ?_
  clear hK K
  refine walkL_seq ?_
  refine walkL_region fun K hK => ?_
  have h47 : FnS Try.prog 47 [.sl [[.i (-1)]], .i n.places] 3 1 (List.replicate m [.i (-1)]) := by rw [hm]; exact f47 (-1) m (by omega)
  simp (maxSteps := 4000000) only [go_sem]
  refine ⟨_, .lentS (hdst := rfl) (hf := h47) (hd := rfl) (hr := by intro r hr d hd; rw [List.eq_of_mem_replicate hr] at hd; simp at hd; subst hd; rfl) (hfr := rfl), ?_⟩
  simp (maxSteps := 4000000) only [go_sem]
  refine hK _ ?_
  clear hK K
  have hlt : to.toNat < m := by omega
  have hset : (List.replicate m [DV.int IntKind.i64 (-1)]).set to.toNat [DV.i b] = intRows (deadlines0 n to b) := by
    rw [show List.replicate m [DV.int IntKind.i64 (-1)] = intRows (List.replicate m (-1)) from intRows_replicate m (-1), intRows_set, deadlines0, hm]; rfl
  have hget : (List.replicate m [DV.int IntKind.i64 (-1)])[to.toNat]? = some [DV.int IntKind.i64 (-1)] := by simp [hlt]
  repeat (first | refine walkL_seq ?_ | refine walkL_skip ?_ | refine walkL_block ?_ | (refine walkL_region fun K hK => ?_; simp (maxSteps := 4000000) only [go_sem, hlt, hget, hset, hto.1]; refine hK _ ?_; clear hK K) | refine walkL_nil ?_ | refine walkL_ret ?_ | refine walkL_exit ?_ | refine blockA_here ?_ | refine blockA_other rfl ?_ | refine blockA_ret ?_ | refine blockA_normal ?_ | refine thenA_ret ?_ | refine thenA_exit ?_ | refine thenA_normal ?_)
  refine walkL_loopS (fun (a : List Int × Bool × Nat) => [(8, .box 8 0)]) (fun a => [(8, some (.box [.d (.bool a.2.1)])), (16, some (.arr 3 1 (intRows a.1)))])
    (fun a => a.1.length = m ∧ deadlinesL n p to b = (if a.2.1 then fixD n p a.2.2 a.1 else a.1) ∧ (a.2.1 = true → riseM a.1 < a.2.2)) (fun a => if a.2.1 then a.2.2 + 1 else 0) (deadlines0 n to b, true, riseM (deadlines0 n to b) + 1) ?_ ⟨by simp [deadlines0, hm], by simp [deadlinesL], fun _ => by simp⟩ ?_
  · simp (maxSteps := 4000000) only [go_sem]
    refine weak_of [] ?_ ?_ rfl rfl <;> simp [lessT, lessM, lessB, AV.less]
  · rintro ⟨l, ch, k⟩ ⟨h1, h2, h3⟩
    dsimp only at h1 h2 h3
    simp (maxSteps := 4000000) only [go_sem]
    repeat (first | refine walkL_seq ?_ | refine walkL_skip ?_ | refine walkL_block ?_ | (refine walkL_region fun K hK => ?_; simp (maxSteps := 4000000) only [go_sem]; refine hK _ ?_; clear hK K) | refine walkL_nil ?_ | refine walkL_ret ?_ | refine walkL_exit ?_ | refine blockA_here ?_ | refine blockA_other rfl ?_ | refine blockA_ret ?_ | refine blockA_normal ?_ | refine thenA_ret ?_ | refine thenA_exit ?_ | refine thenA_normal ?_)
    refine walkL_cond rfl (fun hb => ?_) (fun hb => ?_)
    · subst hb
      repeat (first | refine walkL_seq ?_ | refine walkL_skip ?_ | refine walkL_block ?_ | (refine walkL_region fun K hK => ?_; simp (maxSteps := 4000000) only [go_sem]; refine hK _ ?_; clear hK K) | refine walkL_nil ?_ | refine walkL_ret ?_ | refine walkL_exit ?_ | refine blockA_here ?_ | refine blockA_other rfl ?_ | refine blockA_ret ?_ | refine blockA_normal ?_ | refine thenA_ret ?_ | refine thenA_exit ?_ | refine thenA_normal ?_)
      refine walkL_region fun K hK => ?_
      simp (maxSteps := 4000000) only [go_sem]
      refine ⟨_, .given (hf := f48 n p (-1)) (hd := rfl) (ha := rfl), ?_⟩
      simp (maxSteps := 4000000) only [go_sem]
      refine hK _ ?_
      clear hK K
      repeat (first | refine walkL_seq ?_ | refine walkL_skip ?_ | refine walkL_block ?_ | (refine walkL_region fun K hK => ?_; simp (maxSteps := 4000000) only [go_sem]; refine hK _ ?_; clear hK K) | refine walkL_nil ?_ | refine walkL_ret ?_ | refine walkL_exit ?_ | refine blockA_here ?_ | refine blockA_other rfl ?_ | refine blockA_ret ?_ | refine blockA_normal ?_ | refine thenA_ret ?_ | refine thenA_exit ?_ | refine thenA_normal ?_)
      refine walkL_rangeS (g := .tmp 23) rfl (iter87 n p (-1) (by have := hn.paths; omega)) (by intro row hr; obtain ⟨w, _, rfl⟩ := List.mem_map.1 hr; rfl) (fun _ => []) (fun (a : List Int × Bool) => [(8, some (.box [.d (.bool a.2)])), (16, some (.arr 3 1 (intRows a.1)))])
        (fun i a => a = ((waysL n p (-1)).take i).foldl (relaxD p) (l, false)) (fun _ _ => False) (l, false) ?_ rfl ?_ ?_ (fun _ _ h => h.elim)
      · simp (maxSteps := 4000000) only [go_sem]
        refine weak_of [] ?_ ?_ rfl rfl <;> simp [lessT, lessM, lessB, AV.less]
      · intro i a row hi ha l2 m2
        simp only [List.getElem?_map, Option.map_eq_some_iff] at hi
        obtain ⟨w, hw, rfl⟩ := hi
        have hx := waysL_get (List.mem_of_getElem? hw)
        have hmem := List.mem_of_getElem? hx
        have hlen : a.1.length = m := by rw [ha, foldD_len]; exact h1
        have hf := hn.frm w.2 hmem
        have ht := hn.to w.2 hmem
        have g1 : (intRows a.1)[w.2.to.toNat]? = some [.i (getI a.1 w.2.to)] := intRows_get ht.1 (by omega)
        have g2 : (intRows a.1)[w.2.frm.toNat]? = some [.i (getI a.1 w.2.frm)] := intRows_get hf.1 (by omega)
        have g3 : w.2.to.toNat < (intRows a.1).length := by rw [intRows_len]; omega
        have g4 : w.2.frm.toNat < (intRows a.1).length := by rw [intRows_len]; omega
        have h49 := f49 n p w.1 w.2 (getI a.1 w.2.to) hx (by have := hn.opens w.2 hmem; omega)
        have hnext : ((waysL n p (-1)).take (i + 1)).foldl (relaxD p) (l, false) = relaxD p a w := by rw [ha]; exact foldl_take_succ _ _ _ _ _ hw
        simp (maxSteps := 4000000) only [go_sem, wayRow, Path.row]
        repeat (first | refine walkL_seq ?_ | refine walkL_skip ?_ | refine walkL_block ?_ | (refine walkL_region fun K hK => ?_; simp (maxSteps := 4000000) only [go_sem, g1, g2, g3, g4, ht.1, hf.1]; refine hK _ ?_; clear hK K) | refine walkL_nil ?_ | refine walkL_ret ?_ | refine walkL_exit ?_ | refine blockA_here ?_ | refine blockA_other rfl ?_ | refine blockA_ret ?_ | refine blockA_normal ?_ | refine thenA_ret ?_ | refine thenA_exit ?_ | refine thenA_normal ?_)
        refine walkL_drawn (by kernel_rfl) (by kernel_rfl) fun K hK => ?_
        simp (maxSteps := 4000000) only [go_sem, g1, g2, g3, g4, ht.1, hf.1]
        refine ⟨_, .fn (hf := h49) (hd := rfl) (hr := .inl rfl), ?_⟩
        simp (maxSteps := 4000000) only [go_sem]
        refine ⟨by kernel_rfl, hK _ ?_⟩
        clear hK K
        repeat (first | refine walkL_seq ?_ | refine walkL_skip ?_ | refine walkL_block ?_ | (refine walkL_region fun K hK => ?_; simp (maxSteps := 4000000) only [go_sem, g1, g2, g3, g4, ht.1, hf.1]; refine hK _ ?_; clear hK K) | refine walkL_nil ?_ | refine walkL_ret ?_ | refine walkL_exit ?_ | refine blockA_here ?_ | refine blockA_other rfl ?_ | refine blockA_ret ?_ | refine blockA_normal ?_ | refine thenA_ret ?_ | refine thenA_exit ?_ | refine thenA_normal ?_)
        refine walkL_cond rfl (fun hc => ?_) (fun hc => ?_)
        · have hc : latestF w.2.opens (wr (getI a.1 w.2.to - (spanW w.2 p).hi)) > getI a.1 w.2.frm := by simpa using hc
          have he : relaxD p a w = (a.1.set w.2.frm.toNat (latestF w.2.opens (wr (getI a.1 w.2.to - (spanW w.2 p).hi))), true) := by unfold relaxD; dsimp only; rw [if_pos hc]
          repeat (first | refine walkL_seq ?_ | refine walkL_skip ?_ | refine walkL_block ?_ | (refine walkL_region fun K hK => ?_; simp (maxSteps := 4000000) only [go_sem, g1, g2, g3, g4, ht.1, hf.1]; refine hK _ ?_; clear hK K) | refine walkL_nil ?_ | refine walkL_ret ?_ | refine walkL_exit ?_ | refine blockA_here ?_ | refine blockA_other rfl ?_ | refine blockA_ret ?_ | refine blockA_normal ?_ | refine thenA_ret ?_ | refine thenA_exit ?_ | refine thenA_normal ?_)
          refine ⟨rfl, relaxD p a w, ?_, hnext.symm⟩
          rw [he, intRows_set]
          simp (maxSteps := 4000000) only [go_sem]
          refine weak_of [] ?_ ?_ rfl rfl <;> simp [lessT, lessM, lessB, AV.less]
        · have hc : ¬ latestF w.2.opens (wr (getI a.1 w.2.to - (spanW w.2 p).hi)) > getI a.1 w.2.frm := by simpa using hc
          have he : relaxD p a w = a := by unfold relaxD; dsimp only; rw [if_neg hc]
          repeat (first | refine walkL_seq ?_ | refine walkL_skip ?_ | refine walkL_block ?_ | (refine walkL_region fun K hK => ?_; simp (maxSteps := 4000000) only [go_sem]; refine hK _ ?_; clear hK K) | refine walkL_nil ?_ | refine walkL_ret ?_ | refine walkL_exit ?_ | refine blockA_here ?_ | refine blockA_other rfl ?_ | refine blockA_ret ?_ | refine blockA_normal ?_ | refine thenA_ret ?_ | refine thenA_exit ?_ | refine thenA_normal ?_)
          refine ⟨rfl, relaxD p a w, ?_, hnext.symm⟩
          rw [he]
          simp (maxSteps := 4000000) only [go_sem]
          refine weak_of [] ?_ ?_ rfl rfl <;> simp [lessT, lessM, lessB, AV.less]
      · intro a ha
        rw [List.length_map, List.take_length] at ha
        have ha : a = passD n p l := ha
        have hM := foldD_M p (waysL n p (-1)) (l, false) (fun w hw => by
          have hx := List.mem_of_getElem? (waysL_get hw)
          have := hn.frm w.2 hx
          exact ⟨this.1, by show w.2.frm.toNat < l.length; omega, hhi w.2 hx⟩)
        rw [← show passD n p l = (waysL n p (-1)).foldl (relaxD p) (l, false) from rfl, ← ha] at hM
        have hlen : a.1.length = m := by rw [ha, passD, foldD_len]; exact h1
        have hk := h3 rfl
        simp (maxSteps := 4000000) only [go_sem]
        repeat (first | refine walkL_seq ?_ | refine walkL_skip ?_ | refine walkL_block ?_ | (refine walkL_region fun K hK => ?_; simp (maxSteps := 4000000) only [go_sem]; refine hK _ ?_; clear hK K) | refine walkL_nil ?_ | refine walkL_ret ?_ | refine walkL_exit ?_ | refine blockA_here ?_ | refine blockA_other rfl ?_ | refine blockA_ret ?_ | refine blockA_normal ?_ | refine thenA_ret ?_ | refine thenA_exit ?_ | refine thenA_normal ?_)
        refine walkL_forget [8] ?_ ?_
        · simp (maxSteps := 4000000) only [go_sem]
          refine weak_of [] ?_ ?_ rfl rfl <;> simp [lessT, lessM, lessB, AV.less]
        simp (maxSteps := 4000000) only [go_sem]
        repeat (first | refine walkL_seq ?_ | refine walkL_skip ?_ | refine walkL_block ?_ | (refine walkL_region fun K hK => ?_; simp (maxSteps := 4000000) only [go_sem]; refine hK _ ?_; clear hK K) | refine walkL_nil ?_ | refine walkL_ret ?_ | refine walkL_exit ?_ | refine blockA_here ?_ | refine blockA_other rfl ?_ | refine blockA_ret ?_ | refine blockA_normal ?_ | refine thenA_ret ?_ | refine thenA_exit ?_ | refine thenA_normal ?_)
        refine ⟨rfl, (a.1, a.2, k - 1), ?_, ⟨hlen, ?_, fun hc => ?_⟩, ?_⟩
        · refine weak_of [] ?_ ?_ rfl rfl <;> simp [lessT, lessM, lessB, AV.less]
        · obtain ⟨k', rfl⟩ : ∃ k', k = k' + 1 := ⟨k - 1, by omega⟩
          rw [h2, if_pos rfl, fixD, ← ha]; rfl
        · have := hM.2 rfl hc
          dsimp only at this ⊢
          omega
        · dsimp only
          split <;> simp <;> omega
    · subst hb
      repeat (first | refine walkL_seq ?_ | refine walkL_skip ?_ | refine walkL_block ?_ | (refine walkL_region fun K hK => ?_; simp (maxSteps := 4000000) only [go_sem]; refine hK _ ?_; clear hK K) | refine walkL_nil ?_ | refine walkL_ret ?_ | refine walkL_exit ?_ | refine blockA_here ?_ | refine blockA_other rfl ?_ | refine blockA_ret ?_ | refine blockA_normal ?_ | refine thenA_ret ?_ | refine thenA_exit ?_ | refine thenA_normal ?_)
      simp (maxSteps := 4000000) only [go_sem]
      rw [h2]
      simp
end Go.Ab
namespace Go.Ab
open Go.RowKit Go.Proofs
attribute [local irreducible] WalkL Walk

def never : Int := 1073741824

/-- One path, in a pass of arrivals. -/
def relaxA (p : Party) (q : Span → Int) (a : List Int × Bool) (w : Nat × Path) : List Int × Bool :=
  if getI a.1 w.2.frm = never then a else
    let t := arriveF w.2.opens (getI a.1 w.2.frm) (q (spanW w.2 p))
    if t < getI a.1 w.2.to then (a.1.set w.2.to.toNat t, true) else a

def passA (n : Net) (p : Party) (q : Span → Int) (but : Int) (l : List Int) : List Int × Bool := (waysL n p but).foldl (relaxA p q) (l, false)

theorem relaxA_len (p : Party) (q : Span → Int) (a : List Int × Bool) (w : Nat × Path) : (relaxA p q a w).1.length = a.1.length := by
  unfold relaxA
  split
  · rfl
  · dsimp only; split <;> simp

theorem foldA_len (p : Party) (q : Span → Int) : ∀ (ws : List (Nat × Path)) (a : List Int × Bool), (ws.foldl (relaxA p q) a).1.length = a.1.length
  | [], _ => rfl
  | w :: ws, a => by rw [List.foldl_cons, foldA_len p q ws, relaxA_len]

/-- How far a list of minutes still can fall. -/
def fallM (l : List Int) : Nat := (l.map fun x => (x + 9223372036854775809).toNat).sum

theorem fallM_set : ∀ (l : List Int) (k : Nat) (t x : Int), l[k]? = some x → t < x → -9223372036854775808 ≤ t → fallM (l.set k t) < fallM l
  | [], _, _, _, h, _, _ => by simp at h
  | a :: l, 0, t, x, h, h1, h2 => by
    simp at h; subst h
    simp only [fallM, List.set_cons_zero, List.map_cons, List.sum_cons]
    omega
  | a :: l, k + 1, t, x, h, h1, h2 => by
    have := fallM_set l k t x (by simpa using h) h1 h2
    simp only [fallM, List.set_cons_succ, List.map_cons, List.sum_cons] at this ⊢
    omega

theorem wr_low (x : Int) : -9223372036854775808 ≤ wr x := by
  show -9223372036854775808 ≤ IntKind.i64.wrap x
  rw [IntKind.wrap_i64]; omega

theorem arriveF_low (opens : List Span) (t d : Int) : -9223372036854775808 ≤ arriveF opens t d := by
  unfold arriveF; split
  · omega
  · exact wr_low _

theorem foldA_M (p : Party) (q : Span → Int) : ∀ (ws : List (Nat × Path)) (a : List Int × Bool), (∀ w ∈ ws, w.2.to.toNat < a.1.length) →
    fallM (ws.foldl (relaxA p q) a).1 ≤ fallM a.1 ∧ (a.2 = false → (ws.foldl (relaxA p q) a).2 = true → fallM (ws.foldl (relaxA p q) a).1 < fallM a.1)
  | [], a, _ => ⟨Nat.le_refl _, fun h1 h2 => by simp only [List.foldl_nil] at h2; rw [h1] at h2; cases h2⟩
  | w :: ws, a, h => by
    have h2 := h w (List.mem_cons_self ..)
    have ih := foldA_M p q ws (relaxA p q a w) (fun w' h' => by rw [relaxA_len]; exact h w' (List.mem_cons_of_mem _ h'))
    rw [List.foldl_cons]
    by_cases hn : getI a.1 w.2.frm = never
    · have he : relaxA p q a w = a := by unfold relaxA; rw [if_pos hn]
      rw [he] at ih ⊢; exact ih
    · by_cases hc : arriveF w.2.opens (getI a.1 w.2.frm) (q (spanW w.2 p)) < getI a.1 w.2.to
      · have he : relaxA p q a w = (a.1.set w.2.to.toNat (arriveF w.2.opens (getI a.1 w.2.frm) (q (spanW w.2 p))), true) := by unfold relaxA; rw [if_neg hn]; dsimp only; rw [if_pos hc]
        have hlt : fallM (relaxA p q a w).1 < fallM a.1 := by
          rw [he]
          exact fallM_set a.1 _ _ (getI a.1 w.2.to) (by simp [getI, h2]) hc (arriveF_low _ _ _)
        exact ⟨by omega, fun _ _ => by omega⟩
      · have he : relaxA p q a w = a := by unfold relaxA; rw [if_neg hn]; dsimp only; rw [if_neg hc]
        rw [he] at ih ⊢; exact ih

def fixA (n : Net) (p : Party) (q : Span → Int) (but : Int) : Nat → List Int → List Int
  | 0, l => l
  | k + 1, l => if (passA n p q but l).2 then fixA n p q but k (passA n p q but l).1 else (passA n p q but l).1

def arrivals0 (n : Net) (frm start : Int) : List Int := (List.replicate n.places.toNat never).set frm.toNat start
def arrivalsL (n : Net) (p : Party) (q : Span → Int) (frm start but : Int) : List Int := fixA n p q but (fallM (arrivals0 n frm start) + 1) (arrivals0 n frm start)
end Go.Ab
namespace Go.Ab
open Go.RowKit Go.Proofs
attribute [local irreducible] WalkL Walk

theorem f42 (n : Net) (p : Party) (frm start but : Int) (g : Nat) (q : Span → Int) (hq : ∀ s, Fn Try.prog g [.agg s.row] (.i (q s))) (hn : n.Ok) (hfr : 0 ≤ frm ∧ frm < n.places) :
    FnS Try.prog 42 [.agg (walkCells n p), .i frm, .i start, .i but, .fn g []] 3 1 (intRows (arrivalsL n p q frm start but)) := by
  obtain ⟨m, hm⟩ : ∃ m : Nat, n.places = m := ⟨n.places.toNat, by have := hn.places.1; omega⟩
  have hpl := hn.places
  refine fnS_walk 64 Try.call42 Try.func42 rfl (by decide) fun J => ?_
  simp (maxSteps := 4000000) only [go_sem, St.start, Try.ntmps42, Try.results42, walkCells]
  refine walkL_seq ?_
  refine walkL_region fun K hK => ?_
  simp (maxSteps := 4000000) only [go_sem]
  refine hK _ ?_
  clear hK K
  refine walkL_seq ?_
  refine walkL_region fun K hK => ?_
  have h47 : FnS Try.prog 47 [.sl [[.i 1073741824]], .i n.places] 3 1 (List.replicate m [.i 1073741824]) := by rw [hm]; exact f47 1073741824 m (by omega)
  simp (maxSteps := 4000000) only [go_sem]
  refine ⟨_, .lentS (hdst := rfl) (hf := h47) (hd := rfl) (hr := by intro r hr d hd; rw [List.eq_of_mem_replicate hr] at hd; simp at hd; subst hd; rfl) (hfr := rfl), ?_⟩
  simp (maxSteps := 4000000) only [go_sem]
  refine hK _ ?_
  clear hK K
  have hlt : frm.toNat < m := by omega
  have hset : (List.replicate m [DV.int IntKind.i64 1073741824]).set frm.toNat [DV.i start] = intRows (arrivals0 n frm start) := by
    rw [show List.replicate m [DV.int IntKind.i64 1073741824] = intRows (List.replicate m 1073741824) from intRows_replicate m 1073741824, intRows_set, arrivals0, hm]; rfl
  have hget : (List.replicate m [DV.int IntKind.i64 1073741824])[frm.toNat]? = some [DV.int IntKind.i64 1073741824] := by simp [hlt]
  repeat (first | refine walkL_seq ?_ | refine walkL_skip ?_ | refine walkL_block ?_ | (refine walkL_region fun K hK => ?_; simp (maxSteps := 4000000) only [go_sem, hlt, hget, hset, hfr.1]; refine hK _ ?_; clear hK K) | refine walkL_nil ?_ | refine walkL_ret ?_ | refine walkL_exit ?_ | refine blockA_here ?_ | refine blockA_other rfl ?_ | refine blockA_ret ?_ | refine blockA_normal ?_ | refine thenA_ret ?_ | refine thenA_exit ?_ | refine thenA_normal ?_)
  refine walkL_loopS (fun (a : List Int × Bool × Nat) => [(12, .box 12 0)]) (fun a => [(12, some (.box [.d (.bool a.2.1)])), (20, some (.arr 3 1 (intRows a.1)))])
    (fun a => a.1.length = m ∧ arrivalsL n p q frm start but = (if a.2.1 then fixA n p q but a.2.2 a.1 else a.1) ∧ (a.2.1 = true → fallM a.1 < a.2.2)) (fun a => if a.2.1 then a.2.2 + 1 else 0) (arrivals0 n frm start, true, fallM (arrivals0 n frm start) + 1) ?_ ⟨by simp [arrivals0, hm], by simp [arrivalsL], fun _ => by simp⟩ ?_
  · simp (maxSteps := 4000000) only [go_sem]
    refine weak_of [] ?_ ?_ rfl rfl <;> simp [lessT, lessM, lessB, AV.less]
  · rintro ⟨l, ch, k⟩ ⟨h1, h2, h3⟩
    dsimp only at h1 h2 h3
    simp (maxSteps := 4000000) only [go_sem]
    repeat (first | refine walkL_seq ?_ | refine walkL_skip ?_ | refine walkL_block ?_ | (refine walkL_region fun K hK => ?_; simp (maxSteps := 4000000) only [go_sem]; refine hK _ ?_; clear hK K) | refine walkL_nil ?_ | refine walkL_ret ?_ | refine walkL_exit ?_ | refine blockA_here ?_ | refine blockA_other rfl ?_ | refine blockA_ret ?_ | refine blockA_normal ?_ | refine thenA_ret ?_ | refine thenA_exit ?_ | refine thenA_normal ?_)
    refine walkL_cond rfl (fun hb => ?_) (fun hb => ?_)
    · subst hb
      repeat (first | refine walkL_seq ?_ | refine walkL_skip ?_ | refine walkL_block ?_ | (refine walkL_region fun K hK => ?_; simp (maxSteps := 4000000) only [go_sem]; refine hK _ ?_; clear hK K) | refine walkL_nil ?_ | refine walkL_ret ?_ | refine walkL_exit ?_ | refine blockA_here ?_ | refine blockA_other rfl ?_ | refine blockA_ret ?_ | refine blockA_normal ?_ | refine thenA_ret ?_ | refine thenA_exit ?_ | refine thenA_normal ?_)
      refine walkL_region fun K hK => ?_
      simp (maxSteps := 4000000) only [go_sem]
      refine ⟨_, .given (hf := f48 n p but) (hd := rfl) (ha := rfl), ?_⟩
      simp (maxSteps := 4000000) only [go_sem]
      refine hK _ ?_
      clear hK K
      repeat (first | refine walkL_seq ?_ | refine walkL_skip ?_ | refine walkL_block ?_ | (refine walkL_region fun K hK => ?_; simp (maxSteps := 4000000) only [go_sem]; refine hK _ ?_; clear hK K) | refine walkL_nil ?_ | refine walkL_ret ?_ | refine walkL_exit ?_ | refine blockA_here ?_ | refine blockA_other rfl ?_ | refine blockA_ret ?_ | refine blockA_normal ?_ | refine thenA_ret ?_ | refine thenA_exit ?_ | refine thenA_normal ?_)
      refine walkL_rangeS (g := .tmp 28) rfl (iter87 n p but (by have := hn.paths; omega)) (by intro row hr; obtain ⟨w, _, rfl⟩ := List.mem_map.1 hr; rfl) (fun _ => []) (fun (a : List Int × Bool) => [(12, some (.box [.d (.bool a.2)])), (20, some (.arr 3 1 (intRows a.1)))])
        (fun i a => a = ((waysL n p but).take i).foldl (relaxA p q) (l, false)) (fun _ _ => False) (l, false) ?_ rfl ?_ ?_ (fun _ _ h => h.elim)
      · simp (maxSteps := 4000000) only [go_sem]
        refine weak_of [] ?_ ?_ rfl rfl <;> simp [lessT, lessM, lessB, AV.less]
      · intro i a row hi ha l2 m2
        simp only [List.getElem?_map, Option.map_eq_some_iff] at hi
        obtain ⟨w, hw, rfl⟩ := hi
        have hx := waysL_get (List.mem_of_getElem? hw)
        have hmem := List.mem_of_getElem? hx
        have hlen : a.1.length = m := by rw [ha, foldA_len]; exact h1
        have hf := hn.frm w.2 hmem
        have ht := hn.to w.2 hmem
        have g1 : (intRows a.1)[w.2.to.toNat]? = some [.i (getI a.1 w.2.to)] := intRows_get ht.1 (by omega)
        have g2 : (intRows a.1)[w.2.frm.toNat]? = some [.i (getI a.1 w.2.frm)] := intRows_get hf.1 (by omega)
        have g3 : w.2.to.toNat < (intRows a.1).length := by rw [intRows_len]; omega
        have g4 : w.2.frm.toNat < (intRows a.1).length := by rw [intRows_len]; omega
        have h50 := f50 n p w.1 w.2 (getI a.1 w.2.frm) (q (spanW w.2 p)) hx (by have := hn.opens w.2 hmem; omega)
        have h51 := f51 n p w.1 w.2 hx
        have hnext : ((waysL n p but).take (i + 1)).foldl (relaxA p q) (l, false) = relaxA p q a w := by rw [ha]; exact foldl_take_succ _ _ _ _ _ hw
        simp (maxSteps := 4000000) only [go_sem, wayRow, Path.row]
        repeat (first | refine walkL_seq ?_ | refine walkL_skip ?_ | refine walkL_block ?_ | (refine walkL_region fun K hK => ?_; simp (maxSteps := 4000000) only [go_sem, g1, g2, g3, g4, ht.1, hf.1]; refine hK _ ?_; clear hK K) | refine walkL_nil ?_ | refine walkL_ret ?_ | refine walkL_exit ?_ | refine blockA_here ?_ | refine blockA_other rfl ?_ | refine blockA_ret ?_ | refine blockA_normal ?_ | refine thenA_ret ?_ | refine thenA_exit ?_ | refine thenA_normal ?_)
        refine walkL_cond rfl (fun hc => ?_) (fun hc => ?_)
        · have hc : getI a.1 w.2.frm = never := by simpa [never] using hc
          have he : relaxA p q a w = a := by unfold relaxA; rw [if_pos hc]
          repeat (first | refine walkL_seq ?_ | refine walkL_skip ?_ | refine walkL_block ?_ | (refine walkL_region fun K hK => ?_; simp (maxSteps := 4000000) only [go_sem]; refine hK _ ?_; clear hK K) | refine walkL_nil ?_ | refine walkL_ret ?_ | refine walkL_exit ?_ | refine blockA_here ?_ | refine blockA_other rfl ?_ | refine blockA_ret ?_ | refine blockA_normal ?_ | refine thenA_ret ?_ | refine thenA_exit ?_ | refine thenA_normal ?_)
          refine ⟨rfl, relaxA p q a w, ?_, hnext.symm⟩
          rw [he]
          simp (maxSteps := 4000000) only [go_sem]
          refine weak_of [] ?_ ?_ rfl rfl <;> simp [lessT, lessM, lessB, AV.less]
        · have hnv : ¬ getI a.1 w.2.frm = never := by intro e; rw [e] at hc; simp [never] at hc
          repeat (first | refine walkL_seq ?_ | refine walkL_skip ?_ | refine walkL_block ?_ | (refine walkL_region fun K hK => ?_; simp (maxSteps := 4000000) only [go_sem]; refine hK _ ?_; clear hK K) | refine walkL_nil ?_ | refine walkL_ret ?_ | refine walkL_exit ?_ | refine blockA_here ?_ | refine blockA_other rfl ?_ | refine blockA_ret ?_ | refine blockA_normal ?_ | refine thenA_ret ?_ | refine thenA_exit ?_ | refine thenA_normal ?_)
          refine walkL_drawn (by kernel_rfl) (by kernel_rfl) fun K hK => ?_
          simp (maxSteps := 4000000) only [go_sem, g1, g2, g3, g4, ht.1, hf.1]
          refine ⟨_, .fn (hf := h51) (hd := rfl) (hr := .inl rfl), ?_⟩
          simp (maxSteps := 4000000) only [go_sem]
          refine ⟨_, .fn (hf := hq _) (hd := rfl) (hr := .inl rfl), ?_⟩
          simp (maxSteps := 4000000) only [go_sem]
          refine ⟨_, .fn (hf := h50) (hd := rfl) (hr := .inl rfl), ?_⟩
          simp (maxSteps := 4000000) only [go_sem]
          refine ⟨by kernel_rfl, hK _ ?_⟩
          clear hK K
          repeat (first | refine walkL_seq ?_ | refine walkL_skip ?_ | refine walkL_block ?_ | (refine walkL_region fun K hK => ?_; simp (maxSteps := 4000000) only [go_sem, g1, g2, g3, g4, ht.1, hf.1]; refine hK _ ?_; clear hK K) | refine walkL_nil ?_ | refine walkL_ret ?_ | refine walkL_exit ?_ | refine blockA_here ?_ | refine blockA_other rfl ?_ | refine blockA_ret ?_ | refine blockA_normal ?_ | refine thenA_ret ?_ | refine thenA_exit ?_ | refine thenA_normal ?_)
          refine walkL_cond rfl (fun hc => ?_) (fun hc => ?_)
          · have hc : arriveF w.2.opens (getI a.1 w.2.frm) (q (spanW w.2 p)) < getI a.1 w.2.to := by simpa using hc
            have he : relaxA p q a w = (a.1.set w.2.to.toNat (arriveF w.2.opens (getI a.1 w.2.frm) (q (spanW w.2 p))), true) := by unfold relaxA; rw [if_neg hnv]; dsimp only; rw [if_pos hc]
            repeat (first | refine walkL_seq ?_ | refine walkL_skip ?_ | refine walkL_block ?_ | (refine walkL_region fun K hK => ?_; simp (maxSteps := 4000000) only [go_sem, g1, g2, g3, g4, ht.1, hf.1]; refine hK _ ?_; clear hK K) | refine walkL_nil ?_ | refine walkL_ret ?_ | refine walkL_exit ?_ | refine blockA_here ?_ | refine blockA_other rfl ?_ | refine blockA_ret ?_ | refine blockA_normal ?_ | refine thenA_ret ?_ | refine thenA_exit ?_ | refine thenA_normal ?_)
            refine ⟨rfl, relaxA p q a w, ?_, hnext.symm⟩
            rw [he, intRows_set]
            simp (maxSteps := 4000000) only [go_sem]
            refine weak_of [] ?_ ?_ rfl rfl <;> simp [lessT, lessM, lessB, AV.less]
          · have hc : ¬ arriveF w.2.opens (getI a.1 w.2.frm) (q (spanW w.2 p)) < getI a.1 w.2.to := by simpa using hc
            have he : relaxA p q a w = a := by unfold relaxA; rw [if_neg hnv]; dsimp only; rw [if_neg hc]
            repeat (first | refine walkL_seq ?_ | refine walkL_skip ?_ | refine walkL_block ?_ | (refine walkL_region fun K hK => ?_; simp (maxSteps := 4000000) only [go_sem]; refine hK _ ?_; clear hK K) | refine walkL_nil ?_ | refine walkL_ret ?_ | refine walkL_exit ?_ | refine blockA_here ?_ | refine blockA_other rfl ?_ | refine blockA_ret ?_ | refine blockA_normal ?_ | refine thenA_ret ?_ | refine thenA_exit ?_ | refine thenA_normal ?_)
            refine ⟨rfl, relaxA p q a w, ?_, hnext.symm⟩
            rw [he]
            simp (maxSteps := 4000000) only [go_sem]
            refine weak_of [] ?_ ?_ rfl rfl <;> simp [lessT, lessM, lessB, AV.less]
      · intro a ha
        rw [List.length_map, List.take_length] at ha
        have ha : a = passA n p q but l := ha
        have hM := foldA_M p q (waysL n p but) (l, false) (fun w hw => by
          have := hn.to w.2 (List.mem_of_getElem? (waysL_get hw))
          show w.2.to.toNat < l.length; omega)
        rw [← show passA n p q but l = (waysL n p but).foldl (relaxA p q) (l, false) from rfl, ← ha] at hM
        have hlen : a.1.length = m := by rw [ha, passA, foldA_len]; exact h1
        have hk := h3 rfl
        simp (maxSteps := 4000000) only [go_sem]
        repeat (first | refine walkL_seq ?_ | refine walkL_skip ?_ | refine walkL_block ?_ | (refine walkL_region fun K hK => ?_; simp (maxSteps := 4000000) only [go_sem]; refine hK _ ?_; clear hK K) | refine walkL_nil ?_ | refine walkL_ret ?_ | refine walkL_exit ?_ | refine blockA_here ?_ | refine blockA_other rfl ?_ | refine blockA_ret ?_ | refine blockA_normal ?_ | refine thenA_ret ?_ | refine thenA_exit ?_ | refine thenA_normal ?_)
        refine walkL_forget [12] ?_ ?_
        · simp (maxSteps := 4000000) only [go_sem]
          refine weak_of [] ?_ ?_ rfl rfl <;> simp [lessT, lessM, lessB, AV.less]
        simp (maxSteps := 4000000) only [go_sem]
        repeat (first | refine walkL_seq ?_ | refine walkL_skip ?_ | refine walkL_block ?_ | (refine walkL_region fun K hK => ?_; simp (maxSteps := 4000000) only [go_sem]; refine hK _ ?_; clear hK K) | refine walkL_nil ?_ | refine walkL_ret ?_ | refine walkL_exit ?_ | refine blockA_here ?_ | refine blockA_other rfl ?_ | refine blockA_ret ?_ | refine blockA_normal ?_ | refine thenA_ret ?_ | refine thenA_exit ?_ | refine thenA_normal ?_)
        refine ⟨rfl, (a.1, a.2, k - 1), ?_, ⟨hlen, ?_, fun hc => ?_⟩, ?_⟩
        · refine weak_of [] ?_ ?_ rfl rfl <;> simp [lessT, lessM, lessB, AV.less]
        · obtain ⟨k', rfl⟩ : ∃ k', k = k' + 1 := ⟨k - 1, by omega⟩
          rw [h2, if_pos rfl, fixA, ← ha]; rfl
        · have := hM.2 rfl hc
          dsimp only at this ⊢
          omega
        · dsimp only
          split <;> simp <;> omega
    · subst hb
      repeat (first | refine walkL_seq ?_ | refine walkL_skip ?_ | refine walkL_block ?_ | (refine walkL_region fun K hK => ?_; simp (maxSteps := 4000000) only [go_sem]; refine hK _ ?_; clear hK K) | refine walkL_nil ?_ | refine walkL_ret ?_ | refine walkL_exit ?_ | refine blockA_here ?_ | refine blockA_other rfl ?_ | refine blockA_ret ?_ | refine blockA_normal ?_ | refine thenA_ret ?_ | refine thenA_exit ?_ | refine thenA_normal ?_)
      simp (maxSteps := 4000000) only [go_sem]
      rw [h2]
      simp
end Go.Ab
namespace Go.Ab
open Go.RowKit Go.Proofs
attribute [local irreducible] WalkL Walk

def told1 (t : Int) : Int := if t = never then -1 else t

theorem told_step (l : List Int) (i : Nat) (h : i < l.length) : ((l.take i).map told1 ++ l.drop i).set i (told1 l[i]) = (l.take (i + 1)).map told1 ++ l.drop (i + 1) := by
  have h1 : ((l.take i).map told1).length = i := by simp; omega
  rw [List.set_append_right _ _ (by omega), h1, Nat.sub_self, List.drop_eq_getElem_cons h, List.set_cons_zero, List.take_add_one, List.map_append]
  simp [h]

theorem told_get (l : List Int) (i : Nat) (h : i < l.length) : ((l.take i).map told1 ++ l.drop i)[i]? = some l[i] := by
  have h1 : ((l.take i).map told1).length = i := by simp; omega
  rw [List.getElem?_append_right (by omega), h1]
  simp [h]

theorem told_len (l : List Int) (i : Nat) : ((l.take i).map told1 ++ l.drop i).length = l.length := by simp; omega

theorem set_same {α : Type} {l : List α} {i : Nat} {x : α} (h : l[i]? = some x) : l.set i x = l := by
  apply List.ext_getElem?
  intro k
  rw [List.getElem?_set]
  split
  · rename_i e; subst e; rw [if_pos (List.getElem?_eq_some_iff.1 h).1, h]
  · rfl

theorem f59 (l : List Int) (hl : l.length < 2 ^ 62) : FnG Try.prog 59 [.arr 3 1 (intRows l)] [0] [.own 0] (.own 0) [.arr 3 1 (intRows (l.map told1))] := by
  refine fnG_walk 19 Try.call59 Try.func59 rfl (by decide) [] [(0, 0)] (by simp only [List.length_cons, List.length_nil]; decide) (by kernel_rfl) fun J => ?_
  simp (maxSteps := 4000000) only [go_sem, St.startG, Try.ntmps59, Try.results59, List.map_cons, List.map_nil, List.range_succ]
  repeat (first | refine walkL_seq ?_ | refine walkL_skip ?_ | refine walkL_block ?_ | (refine walkL_region fun K hK => ?_; simp (maxSteps := 4000000) only [go_sem, intRows_len]; refine hK _ ?_; clear hK K) | refine walkL_nil ?_ | refine walkL_ret ?_ | refine walkL_exit ?_ | refine blockA_here ?_ | refine blockA_other rfl ?_ | refine blockA_ret ?_ | refine blockA_normal ?_ | refine thenA_ret ?_ | refine thenA_exit ?_ | refine thenA_normal ?_)
  refine walkL_loopS (fun (i : Nat) => [(7, .d (.i i))]) (fun i => [(19, some (.arr 3 1 (intRows ((l.take i).map told1 ++ l.drop i))))]) (fun i => i ≤ l.length) (fun i => l.length - i) 0 ?_ (Nat.zero_le _) ?_
  · simp (maxSteps := 4000000) only [go_sem]
    refine weak_of [] ?_ ?_ rfl rfl <;> simp [lessT, lessM, lessB, AV.less]
  · intro i hi
    simp (maxSteps := 4000000) only [go_sem]
    repeat (first | refine walkL_seq ?_ | refine walkL_skip ?_ | refine walkL_block ?_ | (refine walkL_region fun K hK => ?_; simp (maxSteps := 4000000) only [go_sem]; refine hK _ ?_; clear hK K) | refine walkL_nil ?_ | refine walkL_ret ?_ | refine walkL_exit ?_ | refine blockA_here ?_ | refine blockA_other rfl ?_ | refine blockA_ret ?_ | refine blockA_normal ?_ | refine thenA_ret ?_ | refine thenA_exit ?_ | refine thenA_normal ?_)
    refine walkL_cond rfl (fun hb => ?_) (fun hb => ?_)
    · have hlt : i < l.length := by simpa using hb
      have hw : IntKind.i64.wrap ((i : Int) + 1) = ((i + 1 : Nat) : Int) := by rw [wr_small (by omega)]; simp
      have hlen := told_len l i
      have g1 : (intRows ((l.take i).map told1 ++ l.drop i))[i]? = some [.i l[i]] := by simp only [intRows, List.getElem?_map, told_get l i hlt, Option.map_some]
      have hn := told_step l i hlt
      repeat (first | refine walkL_seq ?_ | refine walkL_skip ?_ | refine walkL_block ?_ | (refine walkL_region fun K hK => ?_; simp (maxSteps := 4000000) only [go_sem, hlt, intRows_len, hlen, g1, hw]; refine hK _ ?_; clear hK K) | refine walkL_nil ?_ | refine walkL_ret ?_ | refine walkL_exit ?_ | refine blockA_here ?_ | refine blockA_other rfl ?_ | refine blockA_ret ?_ | refine blockA_normal ?_ | refine thenA_ret ?_ | refine thenA_exit ?_ | refine thenA_normal ?_)
      refine walkL_cond rfl (fun hc => ?_) (fun hc => ?_)
      · have hc : l[i] = never := by simpa [never] using hc
        have ht : told1 l[i] = -1 := by unfold told1; rw [if_pos hc]
        rw [ht] at hn
        repeat (first | refine walkL_seq ?_ | refine walkL_skip ?_ | refine walkL_block ?_ | (refine walkL_region fun K hK => ?_; simp (maxSteps := 4000000) only [go_sem, hlt, intRows_len, hlen, g1, hw]; refine hK _ ?_; clear hK K) | refine walkL_nil ?_ | refine walkL_ret ?_ | refine walkL_exit ?_ | refine blockA_here ?_ | refine blockA_other rfl ?_ | refine blockA_ret ?_ | refine blockA_normal ?_ | refine thenA_ret ?_ | refine thenA_exit ?_ | refine thenA_normal ?_)
        refine ⟨rfl, i + 1, ?_, hlt, by omega⟩
        rw [← hn, ← intRows_set]
        refine weak_of [] ?_ ?_ rfl rfl <;> simp [lessT, lessM, lessB, AV.less]
      · have hc : ¬ l[i] = never := by intro e; rw [e] at hc; simp [never] at hc
        have ht : told1 l[i] = l[i] := by unfold told1; rw [if_neg hc]
        repeat (first | refine walkL_seq ?_ | refine walkL_skip ?_ | refine walkL_block ?_ | (refine walkL_region fun K hK => ?_; simp (maxSteps := 4000000) only [go_sem, hlt, intRows_len, hlen, g1, hw]; refine hK _ ?_; clear hK K) | refine walkL_nil ?_ | refine walkL_ret ?_ | refine walkL_exit ?_ | refine blockA_here ?_ | refine blockA_other rfl ?_ | refine blockA_ret ?_ | refine blockA_normal ?_ | refine thenA_ret ?_ | refine thenA_exit ?_ | refine thenA_normal ?_)
        refine ⟨rfl, i + 1, ?_, hlt, by omega⟩
        rw [ht, set_same (told_get l i hlt)] at hn
        rw [← hn]
        refine weak_of [] ?_ ?_ rfl rfl <;> simp [lessT, lessM, lessB, AV.less]
    · have he : i = l.length := by have : ¬ i < l.length := by simpa using hb
                                   omega
      subst he
      repeat (first | refine walkL_seq ?_ | refine walkL_skip ?_ | refine walkL_block ?_ | (refine walkL_region fun K hK => ?_; simp (maxSteps := 4000000) only [go_sem]; refine hK _ ?_; clear hK K) | refine walkL_nil ?_ | refine walkL_ret ?_ | refine walkL_exit ?_ | refine blockA_here ?_ | refine blockA_other rfl ?_ | refine blockA_ret ?_ | refine blockA_normal ?_ | refine thenA_ret ?_ | refine thenA_exit ?_ | refine thenA_normal ?_)
      simp (maxSteps := 4000000) only [go_sem, List.take_length, List.drop_length]
end Go.Ab
namespace Go.Ab
open Go.RowKit Go.Proofs
attribute [local irreducible] WalkL Walk

/-- Lengths that fit. -/
structure Net.Small (n : Net) : Prop where
  paths : n.paths.length < 2 ^ 30
  opens : ∀ x ∈ n.paths, x.opens.length < 2 ^ 30

/-- What a path must not be. -/
def wrong1 (n : Net) (x : Path) : Bool :=
  !withinB x.frm 0 (n.places - 1) || (!withinB x.to 0 (n.places - 1) || (x.frm == x.to || (!withinB x.grade 1 6 || (!orderedB x.time 1 600 || (!orderedB x.snow 0 30 || decide ((x.opens.length : Int) > 6))))))
def wrongB (n : Net) (x : Path) : Bool := wrong1 n x || x.opens.any (fun s => !orderedB s 0 2880)

theorem f68 (n : Net) (x : Path) (hn : 0 ≤ n.places ∧ n.places < 2 ^ 62) (hl : x.opens.length < 2 ^ 30) :
    Fn Try.prog 68 [.agg x.row, .ptr [.fn 64 [.ptr n.cells 0]] 0, .ptr [.fn 66 []] 0] (.bool (wrongB n x)) := by
  refine fn_walk 54 Try.call68 Try.func68 rfl (by decide) fun J => ?_
  simp (maxSteps := 4000000) only [go_sem, St.start, Try.ntmps68, Try.results68, Path.row, Net.cells]
  have h66 := fun s (_ : s ∈ x.opens) => f66 s (.i 0)
  repeat (first | refine walkL_seq ?_ | refine walkL_skip ?_ | refine walkL_block ?_ | (refine walkL_region fun K hK => ?_; simp (maxSteps := 4000000) only [go_sem]; refine hK _ ?_; clear hK K) | refine walkL_nil ?_ | refine walkL_ret ?_ | refine walkL_exit ?_ | refine blockA_here ?_ | refine blockA_other rfl ?_ | refine blockA_ret ?_ | refine blockA_normal ?_ | refine thenA_ret ?_ | refine thenA_exit ?_ | refine thenA_normal ?_)
  refine walkL_meetS [(4, .d (.bool (wrongB n x)))] [] ?_ ?_
  · refine walkL_region fun K hK => ?_
    simp (maxSteps := 4000000) only [go_sem]
    refine ⟨_, .lent (hf := f64 n x.frm hn) (hd := rfl) (hr := rfl), ?_⟩
    simp (maxSteps := 4000000) only [go_sem]
    by_cases ho0 : (!withinB x.frm 0 (n.places - 1)) = true
    · simp (maxSteps := 4000000) only [go_sem, ho0]
      refine hK _ ?_
      clear hK K
      refine walkL_nil ?_
      refine thenA_normal ?_
      refine ⟨rfl, ?_⟩
      rw [show (wrongB n x) = (true) from by simp [wrongB, wrong1, ho0]]
      simp (maxSteps := 4000000) only [go_sem]
      refine weak_of [] ?_ ?_ rfl rfl <;> simp [lessT, lessM, lessB, AV.less]
    · simp (maxSteps := 4000000) only [go_sem, ho0]
      refine ⟨_, .lent (hf := f64 n x.to hn) (hd := rfl) (hr := rfl), ?_⟩
      simp (maxSteps := 4000000) only [go_sem, ho0]
      by_cases ho1 : (!withinB x.to 0 (n.places - 1)) = true
      · simp (maxSteps := 4000000) only [go_sem, ho0, ho1]
        refine hK _ ?_
        clear hK K
        refine walkL_nil ?_
        refine thenA_normal ?_
        refine ⟨rfl, ?_⟩
        rw [show (wrongB n x) = (true) from by simp [wrongB, wrong1, ho0, ho1]]
        simp (maxSteps := 4000000) only [go_sem]
        refine weak_of [] ?_ ?_ rfl rfl <;> simp [lessT, lessM, lessB, AV.less]
      · simp (maxSteps := 4000000) only [go_sem, ho0, ho1]
        by_cases ho2 : (x.frm == x.to) = true
        · simp (maxSteps := 4000000) only [go_sem, ho0, ho1, ho2]
          refine hK _ ?_
          clear hK K
          refine walkL_nil ?_
          refine thenA_normal ?_
          refine ⟨rfl, ?_⟩
          rw [show (wrongB n x) = (true) from by simp [wrongB, wrong1, ho0, ho1, ho2]]
          simp (maxSteps := 4000000) only [go_sem]
          refine weak_of [] ?_ ?_ rfl rfl <;> simp [lessT, lessM, lessB, AV.less]
        · simp (maxSteps := 4000000) only [go_sem, ho0, ho1, ho2]
          refine ⟨_, .lent (hf := f65 x.grade 1 6) (hd := rfl) (hr := rfl), ?_⟩
          simp (maxSteps := 4000000) only [go_sem, ho0, ho1, ho2]
          by_cases ho3 : (!withinB x.grade 1 6) = true
          · simp (maxSteps := 4000000) only [go_sem, ho0, ho1, ho2, ho3]
            refine hK _ ?_
            clear hK K
            refine walkL_nil ?_
            refine thenA_normal ?_
            refine ⟨rfl, ?_⟩
            rw [show (wrongB n x) = (true) from by simp [wrongB, wrong1, ho0, ho1, ho2, ho3]]
            simp (maxSteps := 4000000) only [go_sem]
            refine weak_of [] ?_ ?_ rfl rfl <;> simp [lessT, lessM, lessB, AV.less]
          · simp (maxSteps := 4000000) only [go_sem, ho0, ho1, ho2, ho3]
            refine ⟨_, .lent (hf := f67 x.time 1 600) (hd := rfl) (hr := rfl), ?_⟩
            simp (maxSteps := 4000000) only [go_sem, ho0, ho1, ho2, ho3]
            by_cases ho4 : (!orderedB x.time 1 600) = true
            · simp (maxSteps := 4000000) only [go_sem, ho0, ho1, ho2, ho3, ho4]
              refine hK _ ?_
              clear hK K
              refine walkL_nil ?_
              refine thenA_normal ?_
              refine ⟨rfl, ?_⟩
              rw [show (wrongB n x) = (true) from by simp [wrongB, wrong1, ho0, ho1, ho2, ho3, ho4]]
              simp (maxSteps := 4000000) only [go_sem]
              refine weak_of [] ?_ ?_ rfl rfl <;> simp [lessT, lessM, lessB, AV.less]
            · simp (maxSteps := 4000000) only [go_sem, ho0, ho1, ho2, ho3, ho4]
              refine ⟨_, .lent (hf := f67 x.snow 0 30) (hd := rfl) (hr := rfl), ?_⟩
              simp (maxSteps := 4000000) only [go_sem, ho0, ho1, ho2, ho3, ho4]
              by_cases ho5 : (!orderedB x.snow 0 30) = true
              · simp (maxSteps := 4000000) only [go_sem, ho0, ho1, ho2, ho3, ho4, ho5]
                refine hK _ ?_
                clear hK K
                refine walkL_nil ?_
                refine thenA_normal ?_
                refine ⟨rfl, ?_⟩
                rw [show (wrongB n x) = (true) from by simp [wrongB, wrong1, ho0, ho1, ho2, ho3, ho4, ho5]]
                simp (maxSteps := 4000000) only [go_sem]
                refine weak_of [] ?_ ?_ rfl rfl <;> simp [lessT, lessM, lessB, AV.less]
              · simp (maxSteps := 4000000) only [go_sem, ho0, ho1, ho2, ho3, ho4, ho5]
                by_cases ho6 : (decide ((x.opens.length : Int) > 6)) = true
                · simp (maxSteps := 4000000) only [go_sem, ho0, ho1, ho2, ho3, ho4, ho5, ho6]
                  refine hK _ ?_
                  clear hK K
                  refine walkL_nil ?_
                  refine thenA_normal ?_
                  refine ⟨rfl, ?_⟩
                  rw [show (wrongB n x) = (true) from by simp [wrongB, wrong1, ho0, ho1, ho2, ho3, ho4, ho5, ho6]]
                  simp (maxSteps := 4000000) only [go_sem]
                  refine weak_of [] ?_ ?_ rfl rfl <;> simp [lessT, lessM, lessB, AV.less]
                · simp (maxSteps := 4000000) only [go_sem, ho0, ho1, ho2, ho3, ho4, ho5, ho6]
                  refine ⟨_, .lent (hf := f69 x.opens 66 [] _ h66 (by omega)) (hd := rfl) (hr := rfl), ?_⟩
                  simp (maxSteps := 4000000) only [go_sem, ho0, ho1, ho2, ho3, ho4, ho5, ho6]
                  refine hK _ ?_
                  clear hK K
                  refine walkL_nil ?_
                  refine thenA_normal ?_
                  refine ⟨rfl, ?_⟩
                  rw [show (wrongB n x) = (x.opens.any (fun s => !orderedB s 0 2880)) from by simp [wrongB, wrong1, ho0, ho1, ho2, ho3, ho4, ho5, ho6]]
                  simp (maxSteps := 4000000) only [go_sem]
                  refine weak_of [] ?_ ?_ rfl rfl <;> simp [lessT, lessM, lessB, AV.less]
  · simp (maxSteps := 4000000) only [go_sem]
    repeat (first | refine walkL_seq ?_ | refine walkL_skip ?_ | refine walkL_block ?_ | (refine walkL_region fun K hK => ?_; simp (maxSteps := 4000000) only [go_sem]; refine hK _ ?_; clear hK K) | refine walkL_nil ?_ | refine walkL_ret ?_ | refine walkL_exit ?_ | refine blockA_here ?_ | refine blockA_other rfl ?_ | refine blockA_ret ?_ | refine blockA_normal ?_ | refine thenA_ret ?_ | refine thenA_exit ?_ | refine thenA_normal ?_)
    simp (maxSteps := 4000000) only [go_sem]

/-- The error of a net: as the program and its document reckon it. -/
def badNet (n : Net) : Bool := !withinB n.places 1 12 || (decide ((n.paths.length : Int) > 24) || n.paths.any (wrongB n))
def checkF (n : Net) : Int := if badNet n then 10 else 0

theorem within_iff {x lo hi : Int} : withinB x lo hi = true ↔ lo ≤ x ∧ x ≤ hi := by simp [withinB]

theorem f26 (n : Net) (hs : n.Small) : Fn Try.prog 26 [.agg n.cells] (.i (checkF n)) := by
  refine fn_walk 24 Try.call26 Try.func26 rfl (by decide) fun J => ?_
  simp (maxSteps := 4000000) only [go_sem, St.start, Try.ntmps26, Try.results26, Net.cells]
  have h68 : withinB n.places 1 12 = true → ∀ x ∈ n.paths, Fn Try.prog 68 [.agg x.row, .ptr [.fn 64 [.ptr n.cells 0]] 0, .ptr [.fn 66 []] 0] (.bool (wrongB n x)) := fun h x hx =>
    f68 n x (by have := within_iff.1 h; omega) (hs.opens x hx)
  have h70 := fun h => f70 n.paths 68 [.ptr [.fn 64 [.ptr n.cells 0]] 0, .ptr [.fn 66 []] 0] (wrongB n) (h68 h) (Nat.lt_trans hs.paths (by decide))
  repeat (first | refine walkL_seq ?_ | refine walkL_skip ?_ | refine walkL_block ?_ | (refine walkL_region fun K hK => ?_; simp (maxSteps := 4000000) only [go_sem]; refine hK _ ?_; clear hK K) | refine walkL_nil ?_ | refine walkL_ret ?_ | refine walkL_exit ?_ | refine blockA_here ?_ | refine blockA_other rfl ?_ | refine blockA_ret ?_ | refine blockA_normal ?_ | refine thenA_ret ?_ | refine thenA_exit ?_ | refine thenA_normal ?_)
  refine walkL_meetS [(23, .d (.bool (badNet n)))] [] ?_ ?_
  · refine walkL_region fun K hK => ?_
    simp (maxSteps := 4000000) only [go_sem]
    refine ⟨_, .lent (hf := f65 n.places 1 12) (hd := rfl) (hr := rfl), ?_⟩
    simp (maxSteps := 4000000) only [go_sem]
    by_cases ho0 : (!withinB n.places 1 12) = true
    · simp (maxSteps := 4000000) only [go_sem, ho0]
      refine hK _ ?_
      clear hK K
      refine walkL_nil ?_
      refine thenA_normal ?_
      refine ⟨rfl, ?_⟩
      rw [show (badNet n) = (true) from by simp [badNet, ho0]]
      simp (maxSteps := 4000000) only [go_sem]
      refine weak_of [] ?_ ?_ rfl rfl <;> simp [lessT, lessM, lessB, AV.less]
    · simp (maxSteps := 4000000) only [go_sem, ho0]
      by_cases ho1 : (decide ((n.paths.length : Int) > 24)) = true
      · simp (maxSteps := 4000000) only [go_sem, ho0, ho1]
        refine hK _ ?_
        clear hK K
        refine walkL_nil ?_
        refine thenA_normal ?_
        refine ⟨rfl, ?_⟩
        rw [show (badNet n) = (true) from by simp [badNet, ho0, ho1]]
        simp (maxSteps := 4000000) only [go_sem]
        refine weak_of [] ?_ ?_ rfl rfl <;> simp [lessT, lessM, lessB, AV.less]
      · simp (maxSteps := 4000000) only [go_sem, ho0, ho1]
        refine ⟨_, .lent (hf := h70 (by simpa using ho0)) (hd := rfl) (hr := rfl), ?_⟩
        simp (maxSteps := 4000000) only [go_sem, ho0, ho1]
        refine hK _ ?_
        clear hK K
        refine walkL_nil ?_
        refine thenA_normal ?_
        refine ⟨rfl, ?_⟩
        rw [show (badNet n) = (n.paths.any (wrongB n)) from by simp [badNet, ho0, ho1]]
        simp (maxSteps := 4000000) only [go_sem]
        refine weak_of [] ?_ ?_ rfl rfl <;> simp [lessT, lessM, lessB, AV.less]
  · simp (maxSteps := 4000000) only [go_sem]
    repeat (first | refine walkL_seq ?_ | refine walkL_skip ?_ | refine walkL_block ?_ | (refine walkL_region fun K hK => ?_; simp (maxSteps := 4000000) only [go_sem]; refine hK _ ?_; clear hK K) | refine walkL_nil ?_ | refine walkL_ret ?_ | refine walkL_exit ?_ | refine blockA_here ?_ | refine blockA_other rfl ?_ | refine blockA_ret ?_ | refine blockA_normal ?_ | refine thenA_ret ?_ | refine thenA_exit ?_ | refine thenA_normal ?_)
    refine walkL_cond rfl (fun hc => ?_) (fun hc => ?_)
    · repeat (first | refine walkL_seq ?_ | refine walkL_skip ?_ | refine walkL_block ?_ | (refine walkL_region fun K hK => ?_; simp (maxSteps := 4000000) only [go_sem]; refine hK _ ?_; clear hK K) | refine walkL_nil ?_ | refine walkL_ret ?_ | refine walkL_exit ?_ | refine blockA_here ?_ | refine blockA_other rfl ?_ | refine blockA_ret ?_ | refine blockA_normal ?_ | refine thenA_ret ?_ | refine thenA_exit ?_ | refine thenA_normal ?_)
      simp (maxSteps := 4000000) only [go_sem, checkF, hc]
    · repeat (first | refine walkL_seq ?_ | refine walkL_skip ?_ | refine walkL_block ?_ | (refine walkL_region fun K hK => ?_; simp (maxSteps := 4000000) only [go_sem]; refine hK _ ?_; clear hK K) | refine walkL_nil ?_ | refine walkL_ret ?_ | refine walkL_exit ?_ | refine blockA_here ?_ | refine blockA_other rfl ?_ | refine blockA_ret ?_ | refine blockA_normal ?_ | refine thenA_ret ?_ | refine thenA_exit ?_ | refine thenA_normal ?_)
      simp (maxSteps := 4000000) only [go_sem, checkF, hc]
end Go.Ab
namespace Go.Ab
open Go.RowKit Go.Proofs
set_option maxHeartbeats 4000000
attribute [local irreducible] WalkL Walk

theorem any_take_succ {α : Type} {q : α → Bool} {l : List α} {i : Nat} {x : α} (h : l[i]? = some x) (h0 : (l.take i).any q = false) (hx : q x = false) : (l.take (i + 1)).any q = false := by
  rw [List.take_add_one, h, List.any_append, h0]; simp [hx]

theorem any_of_get {α : Type} {q : α → Bool} {l : List α} {i : Nat} {x : α} (h : l[i]? = some x) (hx : q x = true) : l.any q = true := List.any_eq_true.2 ⟨x, List.mem_of_getElem? h, hx⟩

theorem f27 (n : Net) (hs : n.Small) : Fn Try.prog 27 [.agg n.cells] (.i (checkF n)) := by
  refine fn_walk 85 Try.call27 Try.func27 rfl (by decide) fun J => ?_
  simp (maxSteps := 4000000) only [go_sem, St.start, Try.ntmps27, Try.results27, Net.cells]
  repeat (first | refine walkL_seq ?_ | refine walkL_skip ?_ | refine walkL_block ?_ | (refine walkL_region fun K hK => ?_; simp (maxSteps := 4000000) only [go_sem]; refine hK _ ?_; clear hK K) | refine walkL_nil ?_ | refine walkL_ret ?_ | refine walkL_exit ?_ | refine blockA_here ?_ | refine blockA_other rfl ?_ | refine blockA_ret ?_ | refine blockA_normal ?_ | refine thenA_ret ?_ | refine thenA_exit ?_ | refine thenA_normal ?_)
  refine walkL_meetS [(15, .d (.bool (!withinB n.places 1 12 || decide ((n.paths.length : Int) > 24))))] [] ?_ ?_
  · refine walkL_region fun K hK => ?_
    simp (maxSteps := 4000000) only [go_sem]
    refine ⟨_, .lent (hf := f71 n.places 1 12) (hd := rfl) (hr := rfl), ?_⟩
    simp (maxSteps := 4000000) only [go_sem]
    by_cases ho0 : (!withinB n.places 1 12) = true
    · simp (maxSteps := 4000000) only [go_sem, ho0]
      refine hK _ ?_
      clear hK K
      refine walkL_nil ?_
      refine thenA_normal ?_
      refine ⟨rfl, ?_⟩
      rw [show (!withinB n.places 1 12 || decide ((n.paths.length : Int) > 24)) = (true) from by simp [ho0]]
      simp (maxSteps := 4000000) only [go_sem]
      refine weak_of [] ?_ ?_ rfl rfl <;> simp [lessT, lessM, lessB, AV.less]
    · simp (maxSteps := 4000000) only [go_sem, ho0]
      refine hK _ ?_
      clear hK K
      refine walkL_nil ?_
      refine thenA_normal ?_
      refine ⟨rfl, ?_⟩
      rw [show (!withinB n.places 1 12 || decide ((n.paths.length : Int) > 24)) = (decide ((n.paths.length : Int) > 24)) from by simp [ho0]]
      simp (maxSteps := 4000000) only [go_sem]
      refine weak_of [] ?_ ?_ rfl rfl <;> simp [lessT, lessM, lessB, AV.less]
  simp (maxSteps := 4000000) only [go_sem]
  refine walkL_cond rfl (fun hc => ?_) (fun hc => ?_)
  · repeat (first | refine walkL_seq ?_ | refine walkL_skip ?_ | refine walkL_block ?_ | (refine walkL_region fun K hK => ?_; simp (maxSteps := 4000000) only [go_sem]; refine hK _ ?_; clear hK K) | refine walkL_nil ?_ | refine walkL_ret ?_ | refine walkL_exit ?_ | refine blockA_here ?_ | refine blockA_other rfl ?_ | refine blockA_ret ?_ | refine blockA_normal ?_ | refine thenA_ret ?_ | refine thenA_exit ?_ | refine thenA_normal ?_)
    have hb : badNet n = true := by unfold badNet; rw [← Bool.or_assoc, hc]; rfl
    simp (maxSteps := 4000000) only [go_sem, checkF, hb]
  · rw [Bool.or_eq_false_iff] at hc
    have hpl := within_iff.1 (show withinB n.places 1 12 = true by simpa using hc.1)
    have hbad : badNet n = n.paths.any (wrongB n) := by unfold badNet; rw [← Bool.or_assoc, hc.1, hc.2]; rfl
    repeat (first | refine walkL_seq ?_ | refine walkL_skip ?_ | refine walkL_block ?_ | (refine walkL_region fun K hK => ?_; simp (maxSteps := 4000000) only [go_sem]; refine hK _ ?_; clear hK K) | refine walkL_nil ?_ | refine walkL_ret ?_ | refine walkL_exit ?_ | refine blockA_here ?_ | refine blockA_other rfl ?_ | refine blockA_ret ?_ | refine blockA_normal ?_ | refine thenA_ret ?_ | refine thenA_exit ?_ | refine thenA_normal ?_)
    refine walkL_loopS (fun (i : Nat) => [(3, .d (.i i))]) (fun _ => []) (fun i => i ≤ n.paths.length ∧ (n.paths.take i).any (wrongB n) = false) (fun i => n.paths.length - i) 0 ?_ ⟨Nat.zero_le _, rfl⟩ ?_
    · simp (maxSteps := 4000000) only [go_sem]
      refine weak_of [] ?_ ?_ rfl rfl <;> simp [lessT, lessM, lessB, AV.less]
    · intro i ⟨hi, hall⟩
      have hbound := hs.paths
      simp (maxSteps := 4000000) only [go_sem]
      repeat (first | refine walkL_seq ?_ | refine walkL_skip ?_ | refine walkL_block ?_ | (refine walkL_region fun K hK => ?_; simp (maxSteps := 4000000) only [go_sem]; refine hK _ ?_; clear hK K) | refine walkL_nil ?_ | refine walkL_ret ?_ | refine walkL_exit ?_ | refine blockA_here ?_ | refine blockA_other rfl ?_ | refine blockA_ret ?_ | refine blockA_normal ?_ | refine thenA_ret ?_ | refine thenA_exit ?_ | refine thenA_normal ?_)
      refine walkL_cond rfl (fun hb => ?_) (fun hb => ?_)
      · have hlt : i < n.paths.length := by simpa using hb
        have hw : IntKind.i64.wrap ((i : Int) + 1) = ((i + 1 : Nat) : Int) := by rw [wr_small (by omega)]; simp
        obtain ⟨x, hx⟩ : ∃ x, n.paths[i]? = some x := ⟨_, List.getElem?_eq_getElem hlt⟩
        have hxo := hs.opens x (List.mem_of_getElem? hx)
        have hp62 : -(2 ^ 62) ≤ n.places ∧ n.places < 2 ^ 62 := by omega
        repeat (first | refine walkL_seq ?_ | refine walkL_skip ?_ | refine walkL_block ?_ | (refine walkL_region fun K hK => ?_; simp (maxSteps := 4000000) only [go_sem, hx, List.getElem?_map, Path.row]; refine hK _ ?_; clear hK K) | refine walkL_nil ?_ | refine walkL_ret ?_ | refine walkL_exit ?_ | refine blockA_here ?_ | refine blockA_other rfl ?_ | refine blockA_ret ?_ | refine blockA_normal ?_ | refine thenA_ret ?_ | refine thenA_exit ?_ | refine thenA_normal ?_)
        refine walkL_meetS [(70, .d (.bool (wrong1 n x)))] [] ?_ ?_
        · refine walkL_region fun K hK => ?_
          simp (maxSteps := 4000000) only [go_sem]
          refine ⟨_, .lent (hf := f57 n x.frm hp62) (hd := rfl) (hr := rfl), ?_⟩
          simp (maxSteps := 4000000) only [go_sem]
          by_cases ho0 : (!withinB x.frm 0 (n.places - 1)) = true
          · simp (maxSteps := 4000000) only [go_sem, ho0]
            refine hK _ ?_
            clear hK K
            refine walkL_nil ?_
            refine thenA_normal ?_
            refine ⟨rfl, ?_⟩
            rw [show (wrong1 n x) = (true) from by simp [wrong1, ho0]]
            simp (maxSteps := 4000000) only [go_sem]
            refine weak_of [] ?_ ?_ rfl rfl <;> simp [lessT, lessM, lessB, AV.less]
          · simp (maxSteps := 4000000) only [go_sem, ho0]
            refine ⟨_, .lent (hf := f57 n x.to hp62) (hd := rfl) (hr := rfl), ?_⟩
            simp (maxSteps := 4000000) only [go_sem, ho0]
            by_cases ho1 : (!withinB x.to 0 (n.places - 1)) = true
            · simp (maxSteps := 4000000) only [go_sem, ho0, ho1]
              refine hK _ ?_
              clear hK K
              refine walkL_nil ?_
              refine thenA_normal ?_
              refine ⟨rfl, ?_⟩
              rw [show (wrong1 n x) = (true) from by simp [wrong1, ho0, ho1]]
              simp (maxSteps := 4000000) only [go_sem]
              refine weak_of [] ?_ ?_ rfl rfl <;> simp [lessT, lessM, lessB, AV.less]
            · simp (maxSteps := 4000000) only [go_sem, ho0, ho1]
              by_cases ho2 : (x.frm == x.to) = true
              · simp (maxSteps := 4000000) only [go_sem, ho0, ho1, ho2]
                refine hK _ ?_
                clear hK K
                refine walkL_nil ?_
                refine thenA_normal ?_
                refine ⟨rfl, ?_⟩
                rw [show (wrong1 n x) = (true) from by simp [wrong1, ho0, ho1, ho2]]
                simp (maxSteps := 4000000) only [go_sem]
                refine weak_of [] ?_ ?_ rfl rfl <;> simp [lessT, lessM, lessB, AV.less]
              · simp (maxSteps := 4000000) only [go_sem, ho0, ho1, ho2]
                refine ⟨_, .lent (hf := f71 x.grade 1 6) (hd := rfl) (hr := rfl), ?_⟩
                simp (maxSteps := 4000000) only [go_sem, ho0, ho1, ho2]
                by_cases ho3 : (!withinB x.grade 1 6) = true
                · simp (maxSteps := 4000000) only [go_sem, ho0, ho1, ho2, ho3]
                  refine hK _ ?_
                  clear hK K
                  refine walkL_nil ?_
                  refine thenA_normal ?_
                  refine ⟨rfl, ?_⟩
                  rw [show (wrong1 n x) = (true) from by simp [wrong1, ho0, ho1, ho2, ho3]]
                  simp (maxSteps := 4000000) only [go_sem]
                  refine weak_of [] ?_ ?_ rfl rfl <;> simp [lessT, lessM, lessB, AV.less]
                · simp (maxSteps := 4000000) only [go_sem, ho0, ho1, ho2, ho3]
                  refine ⟨_, .lent (hf := f72 x.time 1 600) (hd := rfl) (hr := rfl), ?_⟩
                  simp (maxSteps := 4000000) only [go_sem, ho0, ho1, ho2, ho3]
                  by_cases ho4 : (!orderedB x.time 1 600) = true
                  · simp (maxSteps := 4000000) only [go_sem, ho0, ho1, ho2, ho3, ho4]
                    refine hK _ ?_
                    clear hK K
                    refine walkL_nil ?_
                    refine thenA_normal ?_
                    refine ⟨rfl, ?_⟩
                    rw [show (wrong1 n x) = (true) from by simp [wrong1, ho0, ho1, ho2, ho3, ho4]]
                    simp (maxSteps := 4000000) only [go_sem]
                    refine weak_of [] ?_ ?_ rfl rfl <;> simp [lessT, lessM, lessB, AV.less]
                  · simp (maxSteps := 4000000) only [go_sem, ho0, ho1, ho2, ho3, ho4]
                    refine ⟨_, .lent (hf := f72 x.snow 0 30) (hd := rfl) (hr := rfl), ?_⟩
                    simp (maxSteps := 4000000) only [go_sem, ho0, ho1, ho2, ho3, ho4]
                    by_cases ho5 : (!orderedB x.snow 0 30) = true
                    · simp (maxSteps := 4000000) only [go_sem, ho0, ho1, ho2, ho3, ho4, ho5]
                      refine hK _ ?_
                      clear hK K
                      refine walkL_nil ?_
                      refine thenA_normal ?_
                      refine ⟨rfl, ?_⟩
                      rw [show (wrong1 n x) = (true) from by simp [wrong1, ho0, ho1, ho2, ho3, ho4, ho5]]
                      simp (maxSteps := 4000000) only [go_sem]
                      refine weak_of [] ?_ ?_ rfl rfl <;> simp [lessT, lessM, lessB, AV.less]
                    · simp (maxSteps := 4000000) only [go_sem, ho0, ho1, ho2, ho3, ho4, ho5]
                      refine hK _ ?_
                      clear hK K
                      refine walkL_nil ?_
                      refine thenA_normal ?_
                      refine ⟨rfl, ?_⟩
                      rw [show (wrong1 n x) = (decide ((x.opens.length : Int) > 6)) from by simp [wrong1, ho0, ho1, ho2, ho3, ho4, ho5]]
                      simp (maxSteps := 4000000) only [go_sem]
                      refine weak_of [] ?_ ?_ rfl rfl <;> simp [lessT, lessM, lessB, AV.less]
        simp (maxSteps := 4000000) only [go_sem]
        refine walkL_cond rfl (fun hc1 => ?_) (fun hc1 => ?_)
        · repeat (first | refine walkL_seq ?_ | refine walkL_skip ?_ | refine walkL_block ?_ | (refine walkL_region fun K hK => ?_; simp (maxSteps := 4000000) only [go_sem]; refine hK _ ?_; clear hK K) | refine walkL_nil ?_ | refine walkL_ret ?_ | refine walkL_exit ?_ | refine blockA_here ?_ | refine blockA_other rfl ?_ | refine blockA_ret ?_ | refine blockA_normal ?_ | refine thenA_ret ?_ | refine thenA_exit ?_ | refine thenA_normal ?_)
          have hb : badNet n = true := by rw [hbad]; exact any_of_get hx (by unfold wrongB; rw [hc1]; rfl)
          simp (maxSteps := 4000000) only [go_sem, checkF, hb]
        · repeat (first | refine walkL_seq ?_ | refine walkL_skip ?_ | refine walkL_block ?_ | (refine walkL_region fun K hK => ?_; simp (maxSteps := 4000000) only [go_sem]; refine hK _ ?_; clear hK K) | refine walkL_nil ?_ | refine walkL_ret ?_ | refine walkL_exit ?_ | refine blockA_here ?_ | refine blockA_other rfl ?_ | refine blockA_ret ?_ | refine blockA_normal ?_ | refine thenA_ret ?_ | refine thenA_exit ?_ | refine thenA_normal ?_)
          refine walkL_loopS (fun (k : Nat) => [(5, .d (.i k))]) (fun _ => []) (fun k => k ≤ x.opens.length ∧ (x.opens.take k).any (fun s => !orderedB s 0 2880) = false) (fun k => x.opens.length - k) 0 ?_ ⟨Nat.zero_le _, rfl⟩ ?_
          · simp (maxSteps := 4000000) only [go_sem]
            refine weak_of [] ?_ ?_ rfl rfl <;> simp [lessT, lessM, lessB, AV.less]
          · intro k ⟨hk, hkall⟩
            simp (maxSteps := 4000000) only [go_sem]
            repeat (first | refine walkL_seq ?_ | refine walkL_skip ?_ | refine walkL_block ?_ | (refine walkL_region fun K hK => ?_; simp (maxSteps := 4000000) only [go_sem]; refine hK _ ?_; clear hK K) | refine walkL_nil ?_ | refine walkL_ret ?_ | refine walkL_exit ?_ | refine blockA_here ?_ | refine blockA_other rfl ?_ | refine blockA_ret ?_ | refine blockA_normal ?_ | refine thenA_ret ?_ | refine thenA_exit ?_ | refine thenA_normal ?_)
            refine walkL_cond rfl (fun hb => ?_) (fun hb => ?_)
            · have hlk : k < x.opens.length := by simpa using hb
              have hwk : IntKind.i64.wrap ((k : Int) + 1) = ((k + 1 : Nat) : Int) := by rw [wr_small (by omega)]; simp
              obtain ⟨s, hs1⟩ : ∃ s, x.opens[k]? = some s := ⟨_, List.getElem?_eq_getElem hlk⟩
              repeat (first | refine walkL_seq ?_ | refine walkL_skip ?_ | refine walkL_block ?_ | (refine walkL_region fun K hK => ?_; simp (maxSteps := 4000000) only [go_sem, hs1, List.getElem?_map, Span.row]; (repeat (first | (refine ⟨_, .lent (hf := f72 s 0 2880) (hd := rfl) (hr := rfl), ?_⟩; simp (maxSteps := 4000000) only [go_sem, hs1, List.getElem?_map, Span.row]) | (refine ⟨_, .given (hf := f72 s 0 2880) (hd := rfl) (ha := rfl), ?_⟩; simp (maxSteps := 4000000) only [go_sem, hs1, List.getElem?_map, Span.row]))); refine hK _ ?_; clear hK K) | refine walkL_nil ?_ | refine walkL_ret ?_ | refine walkL_exit ?_ | refine blockA_here ?_ | refine blockA_other rfl ?_ | refine blockA_ret ?_ | refine blockA_normal ?_ | refine thenA_ret ?_ | refine thenA_exit ?_ | refine thenA_normal ?_)
              refine walkL_cond rfl (fun hc2 => ?_) (fun hc2 => ?_)
              · repeat (first | refine walkL_seq ?_ | refine walkL_skip ?_ | refine walkL_block ?_ | (refine walkL_region fun K hK => ?_; simp (maxSteps := 4000000) only [go_sem]; refine hK _ ?_; clear hK K) | refine walkL_nil ?_ | refine walkL_ret ?_ | refine walkL_exit ?_ | refine blockA_here ?_ | refine blockA_other rfl ?_ | refine blockA_ret ?_ | refine blockA_normal ?_ | refine thenA_ret ?_ | refine thenA_exit ?_ | refine thenA_normal ?_)
                have hb : badNet n = true := by rw [hbad]; exact any_of_get hx (by unfold wrongB; rw [any_of_get hs1 hc2]; simp)
                simp (maxSteps := 4000000) only [go_sem, checkF, hb]
              · repeat (first | refine walkL_seq ?_ | refine walkL_skip ?_ | refine walkL_block ?_ | (refine walkL_region fun K hK => ?_; simp (maxSteps := 4000000) only [go_sem, hwk]; refine hK _ ?_; clear hK K) | refine walkL_nil ?_ | refine walkL_ret ?_ | refine walkL_exit ?_ | refine blockA_here ?_ | refine blockA_other rfl ?_ | refine blockA_ret ?_ | refine blockA_normal ?_ | refine thenA_ret ?_ | refine thenA_exit ?_ | refine thenA_normal ?_)
                refine ⟨rfl, k + 1, ?_, ⟨hlk, any_take_succ hs1 hkall hc2⟩, by omega⟩
                refine weak_of [] ?_ ?_ rfl rfl <;> simp [lessT, lessM, lessB, AV.less]
            · have he : k = x.opens.length := by (have : ¬ k < x.opens.length := by simpa using hb); omega
              subst he
              rw [List.take_length] at hkall
              repeat (first | refine walkL_seq ?_ | refine walkL_skip ?_ | refine walkL_block ?_ | (refine walkL_region fun K hK => ?_; simp (maxSteps := 4000000) only [go_sem, hw]; refine hK _ ?_; clear hK K) | refine walkL_nil ?_ | refine walkL_ret ?_ | refine walkL_exit ?_ | refine blockA_here ?_ | refine blockA_other rfl ?_ | refine blockA_ret ?_ | refine blockA_normal ?_ | refine thenA_ret ?_ | refine thenA_exit ?_ | refine thenA_normal ?_)
              refine ⟨rfl, i + 1, ?_, ⟨hlt, any_take_succ hx hall (by unfold wrongB; rw [hc1, hkall]; rfl)⟩, by omega⟩
              refine weak_of [] ?_ ?_ rfl rfl <;> simp [lessT, lessM, lessB, AV.less]
      · have he : i = n.paths.length := by (have : ¬ i < n.paths.length := by simpa using hb); omega
        subst he
        rw [List.take_length] at hall
        repeat (first | refine walkL_seq ?_ | refine walkL_skip ?_ | refine walkL_block ?_ | (refine walkL_region fun K hK => ?_; simp (maxSteps := 4000000) only [go_sem]; refine hK _ ?_; clear hK K) | refine walkL_nil ?_ | refine walkL_ret ?_ | refine walkL_exit ?_ | refine blockA_here ?_ | refine blockA_other rfl ?_ | refine blockA_ret ?_ | refine blockA_normal ?_ | refine thenA_ret ?_ | refine thenA_exit ?_ | refine thenA_normal ?_)
        have hb : badNet n = false := by rw [hbad, hall]
        simp (maxSteps := 4000000) only [go_sem, checkF, hb]
end Go.Ab
namespace Go.Ab
open Go.RowKit Go.Proofs
set_option maxHeartbeats 4000000
attribute [local irreducible] WalkL Walk

def badParty (p : Party) : Bool := !withinB p.grade 1 6 || (!orderedB p.pace 50 300 || !withinB p.load 0 40)
def checkPartyF (n : Net) (p : Party) : Int := if badNet n then 10 else if badParty p then 11 else 0

theorem f56 (n : Net) (p : Party) (hs : n.Small) : Fn Try.prog 56 [.agg n.cells, .agg p.cells] (.i (checkPartyF n p)) := by
  refine fn_walk 27 Try.call56 Try.func56 rfl (by decide) fun J => ?_
  simp (maxSteps := 4000000) only [go_sem, St.start, Try.ntmps56, Try.results56, Net.cells, Party.cells]
  repeat (first | refine walkL_seq ?_ | refine walkL_skip ?_ | refine walkL_block ?_ | (refine walkL_region fun K hK => ?_; simp (maxSteps := 4000000) only [go_sem]; (repeat (first | (refine ⟨_, .lent (hf := f27 n hs) (hd := rfl) (hr := rfl), ?_⟩; simp (maxSteps := 4000000) only [go_sem]) | (refine ⟨_, .given (hf := f27 n hs) (hd := rfl) (ha := rfl), ?_⟩; simp (maxSteps := 4000000) only [go_sem]))); refine hK _ ?_; clear hK K) | refine walkL_nil ?_ | refine walkL_ret ?_ | refine walkL_exit ?_ | refine blockA_here ?_ | refine blockA_other rfl ?_ | refine blockA_ret ?_ | refine blockA_normal ?_ | refine thenA_ret ?_ | refine thenA_exit ?_ | refine thenA_normal ?_)
  by_cases hb : badNet n = true
  · try simp (maxSteps := 4000000) only [go_sem, checkF, hb]
    refine walkL_true rfl ?_
    repeat (first | refine walkL_seq ?_ | refine walkL_skip ?_ | refine walkL_block ?_ | (refine walkL_region fun K hK => ?_; simp (maxSteps := 4000000) only [go_sem]; refine hK _ ?_; clear hK K) | refine walkL_nil ?_ | refine walkL_ret ?_ | refine walkL_exit ?_ | refine blockA_here ?_ | refine blockA_other rfl ?_ | refine blockA_ret ?_ | refine blockA_normal ?_ | refine thenA_ret ?_ | refine thenA_exit ?_ | refine thenA_normal ?_)
    simp (maxSteps := 4000000) only [go_sem, checkPartyF, hb]
  · try simp (maxSteps := 4000000) only [go_sem, checkF, hb]
    refine walkL_false rfl ?_
    repeat (first | refine walkL_seq ?_ | refine walkL_skip ?_ | refine walkL_block ?_ | (refine walkL_region fun K hK => ?_; simp (maxSteps := 4000000) only [go_sem]; refine hK _ ?_; clear hK K) | refine walkL_nil ?_ | refine walkL_ret ?_ | refine walkL_exit ?_ | refine blockA_here ?_ | refine blockA_other rfl ?_ | refine blockA_ret ?_ | refine blockA_normal ?_ | refine thenA_ret ?_ | refine thenA_exit ?_ | refine thenA_normal ?_)
    refine walkL_meetS [(26, .d (.bool (badParty p)))] [] ?_ ?_
    · refine walkL_region fun K hK => ?_
      simp (maxSteps := 4000000) only [go_sem]
      refine ⟨_, .lent (hf := f71 p.grade 1 6) (hd := rfl) (hr := rfl), ?_⟩
      simp (maxSteps := 4000000) only [go_sem]
      by_cases ho0 : (!withinB p.grade 1 6) = true
      · simp (maxSteps := 4000000) only [go_sem, ho0]
        refine hK _ ?_
        clear hK K
        refine walkL_nil ?_
        refine thenA_normal ?_
        refine ⟨rfl, ?_⟩
        rw [show (badParty p) = (true) from by simp [badParty, ho0]]
        simp (maxSteps := 4000000) only [go_sem]
        refine weak_of [] ?_ ?_ rfl rfl <;> simp [lessT, lessM, lessB, AV.less]
      · simp (maxSteps := 4000000) only [go_sem, ho0]
        refine ⟨_, .lent (hf := f72 p.pace 50 300) (hd := rfl) (hr := rfl), ?_⟩
        simp (maxSteps := 4000000) only [go_sem, ho0]
        by_cases ho1 : (!orderedB p.pace 50 300) = true
        · simp (maxSteps := 4000000) only [go_sem, ho0, ho1]
          refine hK _ ?_
          clear hK K
          refine walkL_nil ?_
          refine thenA_normal ?_
          refine ⟨rfl, ?_⟩
          rw [show (badParty p) = (true) from by simp [badParty, ho0, ho1]]
          simp (maxSteps := 4000000) only [go_sem]
          refine weak_of [] ?_ ?_ rfl rfl <;> simp [lessT, lessM, lessB, AV.less]
        · simp (maxSteps := 4000000) only [go_sem, ho0, ho1]
          refine ⟨_, .lent (hf := f71 p.load 0 40) (hd := rfl) (hr := rfl), ?_⟩
          simp (maxSteps := 4000000) only [go_sem, ho0, ho1]
          refine hK _ ?_
          clear hK K
          refine walkL_nil ?_
          refine thenA_normal ?_
          refine ⟨rfl, ?_⟩
          rw [show (badParty p) = (!withinB p.load 0 40) from by simp [badParty, ho0, ho1]]
          simp (maxSteps := 4000000) only [go_sem]
          refine weak_of [] ?_ ?_ rfl rfl <;> simp [lessT, lessM, lessB, AV.less]
    simp (maxSteps := 4000000) only [go_sem]
    refine walkL_cond rfl (fun hc => ?_) (fun hc => ?_)
    · repeat (first | refine walkL_seq ?_ | refine walkL_skip ?_ | refine walkL_block ?_ | (refine walkL_region fun K hK => ?_; simp (maxSteps := 4000000) only [go_sem]; refine hK _ ?_; clear hK K) | refine walkL_nil ?_ | refine walkL_ret ?_ | refine walkL_exit ?_ | refine blockA_here ?_ | refine blockA_other rfl ?_ | refine blockA_ret ?_ | refine blockA_normal ?_ | refine thenA_ret ?_ | refine thenA_exit ?_ | refine thenA_normal ?_)
      simp (maxSteps := 4000000) only [go_sem, checkPartyF, hb, hc]
    · repeat (first | refine walkL_seq ?_ | refine walkL_skip ?_ | refine walkL_block ?_ | (refine walkL_region fun K hK => ?_; simp (maxSteps := 4000000) only [go_sem]; refine hK _ ?_; clear hK K) | refine walkL_nil ?_ | refine walkL_ret ?_ | refine walkL_exit ?_ | refine blockA_here ?_ | refine blockA_other rfl ?_ | refine blockA_ret ?_ | refine blockA_normal ?_ | refine thenA_ret ?_ | refine thenA_exit ?_ | refine thenA_normal ?_)
      simp (maxSteps := 4000000) only [go_sem, checkPartyF, hb, hc]

theorem f73 (n : Net) (p : Party) (hs : n.Small) : Fn Try.prog 73 [.agg n.cells, .agg p.cells] (.tup [.agg (walkCells n p), .i (checkPartyF n p)]) := by
  refine fn_walk 35 Try.call73 Try.func73 rfl (by decide) fun J => ?_
  simp (maxSteps := 4000000) only [go_sem, St.start, Try.ntmps73, Try.results73, Net.cells, Party.cells, walkCells]
  repeat (first | refine walkL_seq ?_ | refine walkL_skip ?_ | refine walkL_block ?_ | (refine walkL_region fun K hK => ?_; simp (maxSteps := 4000000) only [go_sem]; (repeat (first | (refine ⟨_, .lent (hf := f26 n hs) (hd := rfl) (hr := rfl), ?_⟩; simp (maxSteps := 4000000) only [go_sem]) | (refine ⟨_, .given (hf := f26 n hs) (hd := rfl) (ha := rfl), ?_⟩; simp (maxSteps := 4000000) only [go_sem]))); refine hK _ ?_; clear hK K) | refine walkL_nil ?_ | refine walkL_ret ?_ | refine walkL_exit ?_ | refine blockA_here ?_ | refine blockA_other rfl ?_ | refine blockA_ret ?_ | refine blockA_normal ?_ | refine thenA_ret ?_ | refine thenA_exit ?_ | refine thenA_normal ?_)
  by_cases hb : badNet n = true
  · try simp (maxSteps := 4000000) only [go_sem, checkF, hb]
    refine walkL_true rfl ?_
    repeat (first | refine walkL_seq ?_ | refine walkL_skip ?_ | refine walkL_block ?_ | (refine walkL_region fun K hK => ?_; simp (maxSteps := 4000000) only [go_sem]; refine hK _ ?_; clear hK K) | refine walkL_nil ?_ | refine walkL_ret ?_ | refine walkL_exit ?_ | refine blockA_here ?_ | refine blockA_other rfl ?_ | refine blockA_ret ?_ | refine blockA_normal ?_ | refine thenA_ret ?_ | refine thenA_exit ?_ | refine thenA_normal ?_)
    simp (maxSteps := 4000000) only [go_sem, checkPartyF, hb, walkCells]
  · try simp (maxSteps := 4000000) only [go_sem, checkF, hb]
    refine walkL_false rfl ?_
    repeat (first | refine walkL_seq ?_ | refine walkL_skip ?_ | refine walkL_block ?_ | (refine walkL_region fun K hK => ?_; simp (maxSteps := 4000000) only [go_sem]; refine hK _ ?_; clear hK K) | refine walkL_nil ?_ | refine walkL_ret ?_ | refine walkL_exit ?_ | refine blockA_here ?_ | refine blockA_other rfl ?_ | refine blockA_ret ?_ | refine blockA_normal ?_ | refine thenA_ret ?_ | refine thenA_exit ?_ | refine thenA_normal ?_)
    refine walkL_meetS [(32, .d (.bool (badParty p)))] [] ?_ ?_
    · refine walkL_region fun K hK => ?_
      simp (maxSteps := 4000000) only [go_sem]
      refine ⟨_, .lent (hf := f65 p.grade 1 6) (hd := rfl) (hr := rfl), ?_⟩
      simp (maxSteps := 4000000) only [go_sem]
      by_cases ho0 : (!withinB p.grade 1 6) = true
      · simp (maxSteps := 4000000) only [go_sem, ho0]
        refine hK _ ?_
        clear hK K
        refine walkL_nil ?_
        refine thenA_normal ?_
        refine ⟨rfl, ?_⟩
        rw [show (badParty p) = (true) from by simp [badParty, ho0]]
        simp (maxSteps := 4000000) only [go_sem]
        refine weak_of [] ?_ ?_ rfl rfl <;> simp [lessT, lessM, lessB, AV.less]
      · simp (maxSteps := 4000000) only [go_sem, ho0]
        refine ⟨_, .lent (hf := f67 p.pace 50 300) (hd := rfl) (hr := rfl), ?_⟩
        simp (maxSteps := 4000000) only [go_sem, ho0]
        by_cases ho1 : (!orderedB p.pace 50 300) = true
        · simp (maxSteps := 4000000) only [go_sem, ho0, ho1]
          refine hK _ ?_
          clear hK K
          refine walkL_nil ?_
          refine thenA_normal ?_
          refine ⟨rfl, ?_⟩
          rw [show (badParty p) = (true) from by simp [badParty, ho0, ho1]]
          simp (maxSteps := 4000000) only [go_sem]
          refine weak_of [] ?_ ?_ rfl rfl <;> simp [lessT, lessM, lessB, AV.less]
        · simp (maxSteps := 4000000) only [go_sem, ho0, ho1]
          refine ⟨_, .lent (hf := f65 p.load 0 40) (hd := rfl) (hr := rfl), ?_⟩
          simp (maxSteps := 4000000) only [go_sem, ho0, ho1]
          refine hK _ ?_
          clear hK K
          refine walkL_nil ?_
          refine thenA_normal ?_
          refine ⟨rfl, ?_⟩
          rw [show (badParty p) = (!withinB p.load 0 40) from by simp [badParty, ho0, ho1]]
          simp (maxSteps := 4000000) only [go_sem]
          refine weak_of [] ?_ ?_ rfl rfl <;> simp [lessT, lessM, lessB, AV.less]
    simp (maxSteps := 4000000) only [go_sem]
    refine walkL_cond rfl (fun hc => ?_) (fun hc => ?_)
    · repeat (first | refine walkL_seq ?_ | refine walkL_skip ?_ | refine walkL_block ?_ | (refine walkL_region fun K hK => ?_; simp (maxSteps := 4000000) only [go_sem]; refine hK _ ?_; clear hK K) | refine walkL_nil ?_ | refine walkL_ret ?_ | refine walkL_exit ?_ | refine blockA_here ?_ | refine blockA_other rfl ?_ | refine blockA_ret ?_ | refine blockA_normal ?_ | refine thenA_ret ?_ | refine thenA_exit ?_ | refine thenA_normal ?_)
      simp (maxSteps := 4000000) only [go_sem, checkPartyF, hb, hc, walkCells]
    · repeat (first | refine walkL_seq ?_ | refine walkL_skip ?_ | refine walkL_block ?_ | (refine walkL_region fun K hK => ?_; simp (maxSteps := 4000000) only [go_sem]; refine hK _ ?_; clear hK K) | refine walkL_nil ?_ | refine walkL_ret ?_ | refine walkL_exit ?_ | refine blockA_here ?_ | refine blockA_other rfl ?_ | refine blockA_ret ?_ | refine blockA_normal ?_ | refine thenA_ret ?_ | refine thenA_exit ?_ | refine thenA_normal ?_)
      simp (maxSteps := 4000000) only [go_sem, checkPartyF, hb, hc, walkCells]

theorem f84 (n : Net) (x : Int) (hn : 0 ≤ n.places ∧ n.places < 2 ^ 62) : Fn Try.prog 84 [.i x, .ptr n.cells 0] (.bool (!withinB x 0 (n.places - 1))) := by
  refine fn_walk 10 Try.call84 Try.func84 rfl (by decide) fun J => ?_
  simp (maxSteps := 4000000) only [go_sem, St.start, Try.ntmps84, Try.results84, Net.cells]
  have hw : IntKind.i64.wrap (n.places - 1) = n.places - 1 := wr_small (by omega)
  repeat (first | refine walkL_seq ?_ | refine walkL_skip ?_ | refine walkL_block ?_ | (refine walkL_region fun K hK => ?_; simp (maxSteps := 4000000) only [go_sem, hw]; (repeat (first | (refine ⟨_, .lent (hf := f65 _ _ _) (hd := rfl) (hr := rfl), ?_⟩; simp (maxSteps := 4000000) only [go_sem, hw]) | (refine ⟨_, .given (hf := f65 _ _ _) (hd := rfl) (ha := rfl), ?_⟩; simp (maxSteps := 4000000) only [go_sem, hw]))); refine hK _ ?_; clear hK K) | refine walkL_nil ?_ | refine walkL_ret ?_ | refine walkL_exit ?_ | refine blockA_here ?_ | refine blockA_other rfl ?_ | refine blockA_ret ?_ | refine blockA_normal ?_ | refine thenA_ret ?_ | refine thenA_exit ?_ | refine thenA_normal ?_)
  simp (maxSteps := 4000000) only [go_sem]

theorem f85 (x : Int) : Fn Try.prog 85 [.i x] (.bool (!withinB x 0 2880)) := by
  refine fn_walk 6 Try.call85 Try.func85 rfl (by decide) fun J => ?_
  simp (maxSteps := 4000000) only [go_sem, St.start, Try.ntmps85, Try.results85]
  repeat (first | refine walkL_seq ?_ | refine walkL_skip ?_ | refine walkL_block ?_ | (refine walkL_region fun K hK => ?_; simp (maxSteps := 4000000) only [go_sem]; (repeat (first | (refine ⟨_, .lent (hf := f65 _ _ _) (hd := rfl) (hr := rfl), ?_⟩; simp (maxSteps := 4000000) only [go_sem]) | (refine ⟨_, .given (hf := f65 _ _ _) (hd := rfl) (ha := rfl), ?_⟩; simp (maxSteps := 4000000) only [go_sem]))); refine hK _ ?_; clear hK K) | refine walkL_nil ?_ | refine walkL_ret ?_ | refine walkL_exit ?_ | refine blockA_here ?_ | refine blockA_other rfl ?_ | refine blockA_ret ?_ | refine blockA_normal ?_ | refine thenA_ret ?_ | refine thenA_exit ?_ | refine thenA_normal ?_)
  simp (maxSteps := 4000000) only [go_sem]

def badAsk (n : Net) (places minutes : List Int) : Bool := places.any (fun x => !withinB x 0 (n.places - 1)) || minutes.any (fun x => !withinB x 0 2880)
def openF (n : Net) (p : Party) (places minutes : List Int) : Int := if badNet n then 10 else if badParty p then 11 else if badAsk n places minutes then 1 else 0

theorem good_places {n : Net} (h : ¬ badNet n = true) : 1 ≤ n.places ∧ n.places ≤ 12 := by
  have : badNet n = false := by simpa using h
  unfold badNet at this
  rw [Bool.or_eq_false_iff] at this
  exact within_iff.1 (by simpa using this.1)

theorem f41 (n : Net) (p : Party) (places minutes : List Int) (hs : n.Small) (h1 : places.length < 2 ^ 62) (h2 : minutes.length < 2 ^ 62) :
    Fn Try.prog 41 [.agg n.cells, .agg p.cells, .agg [.sl (intRows places), .sl (intRows minutes)]] (.tup [.agg (walkCells n p), .i (openF n p places minutes)]) := by
  refine fn_walk 31 Try.call41 Try.func41 rfl (by decide) fun J => ?_
  simp (maxSteps := 4000000) only [go_sem, St.start, Try.ntmps41, Try.results41, Net.cells, Party.cells]
  have h73 := f73 n p hs
  by_cases hb : badNet n = true
  · repeat (first | refine walkL_seq ?_ | refine walkL_skip ?_ | refine walkL_block ?_ | (refine walkL_region fun K hK => ?_; simp (maxSteps := 4000000) only [go_sem, checkPartyF, hb, walkCells]; (repeat (first | (refine ⟨_, .lent (hf := h73) (hd := rfl) (hr := rfl), ?_⟩; simp (maxSteps := 4000000) only [go_sem, checkPartyF, hb, walkCells]) | (refine ⟨_, .given (hf := h73) (hd := rfl) (ha := rfl), ?_⟩; simp (maxSteps := 4000000) only [go_sem, checkPartyF, hb, walkCells]))); refine hK _ ?_; clear hK K) | refine walkL_nil ?_ | refine walkL_ret ?_ | refine walkL_exit ?_ | refine blockA_here ?_ | refine blockA_other rfl ?_ | refine blockA_ret ?_ | refine blockA_normal ?_ | refine thenA_ret ?_ | refine thenA_exit ?_ | refine thenA_normal ?_)
    try simp (maxSteps := 4000000) only [go_sem, checkPartyF, hb]
    refine walkL_true rfl ?_
    repeat (first | refine walkL_seq ?_ | refine walkL_skip ?_ | refine walkL_block ?_ | (refine walkL_region fun K hK => ?_; simp (maxSteps := 4000000) only [go_sem, walkCells]; refine hK _ ?_; clear hK K) | refine walkL_nil ?_ | refine walkL_ret ?_ | refine walkL_exit ?_ | refine blockA_here ?_ | refine blockA_other rfl ?_ | refine blockA_ret ?_ | refine blockA_normal ?_ | refine thenA_ret ?_ | refine thenA_exit ?_ | refine thenA_normal ?_)
    simp (maxSteps := 4000000) only [go_sem, openF, hb, walkCells]
  · by_cases hp : badParty p = true
    · repeat (first | refine walkL_seq ?_ | refine walkL_skip ?_ | refine walkL_block ?_ | (refine walkL_region fun K hK => ?_; simp (maxSteps := 4000000) only [go_sem, checkPartyF, hb, hp, walkCells]; (repeat (first | (refine ⟨_, .lent (hf := h73) (hd := rfl) (hr := rfl), ?_⟩; simp (maxSteps := 4000000) only [go_sem, checkPartyF, hb, hp, walkCells]) | (refine ⟨_, .given (hf := h73) (hd := rfl) (ha := rfl), ?_⟩; simp (maxSteps := 4000000) only [go_sem, checkPartyF, hb, hp, walkCells]))); refine hK _ ?_; clear hK K) | refine walkL_nil ?_ | refine walkL_ret ?_ | refine walkL_exit ?_ | refine blockA_here ?_ | refine blockA_other rfl ?_ | refine blockA_ret ?_ | refine blockA_normal ?_ | refine thenA_ret ?_ | refine thenA_exit ?_ | refine thenA_normal ?_)
      try simp (maxSteps := 4000000) only [go_sem, checkPartyF, hb, hp]
      refine walkL_true rfl ?_
      repeat (first | refine walkL_seq ?_ | refine walkL_skip ?_ | refine walkL_block ?_ | (refine walkL_region fun K hK => ?_; simp (maxSteps := 4000000) only [go_sem, walkCells]; refine hK _ ?_; clear hK K) | refine walkL_nil ?_ | refine walkL_ret ?_ | refine walkL_exit ?_ | refine blockA_here ?_ | refine blockA_other rfl ?_ | refine blockA_ret ?_ | refine blockA_normal ?_ | refine thenA_ret ?_ | refine thenA_exit ?_ | refine thenA_normal ?_)
      simp (maxSteps := 4000000) only [go_sem, openF, hb, hp, walkCells]
    · have hg := good_places hb
      have h84 := fun x (_ : x ∈ places) => f84 n x (by omega)
      have h85 := fun x (_ : x ∈ minutes) => f85 x
      repeat (first | refine walkL_seq ?_ | refine walkL_skip ?_ | refine walkL_block ?_ | (refine walkL_region fun K hK => ?_; simp (maxSteps := 4000000) only [go_sem, checkPartyF, hb, hp, walkCells]; (repeat (first | (refine ⟨_, .lent (hf := h73) (hd := rfl) (hr := rfl), ?_⟩; simp (maxSteps := 4000000) only [go_sem, checkPartyF, hb, hp, walkCells]) | (refine ⟨_, .given (hf := h73) (hd := rfl) (ha := rfl), ?_⟩; simp (maxSteps := 4000000) only [go_sem, checkPartyF, hb, hp, walkCells]))); refine hK _ ?_; clear hK K) | refine walkL_nil ?_ | refine walkL_ret ?_ | refine walkL_exit ?_ | refine blockA_here ?_ | refine blockA_other rfl ?_ | refine blockA_ret ?_ | refine blockA_normal ?_ | refine thenA_ret ?_ | refine thenA_exit ?_ | refine thenA_normal ?_)
      try simp (maxSteps := 4000000) only [go_sem, checkPartyF, hb, hp, walkCells]
      refine walkL_false rfl ?_
      repeat (first | refine walkL_seq ?_ | refine walkL_skip ?_ | refine walkL_block ?_ | (refine walkL_region fun K hK => ?_; simp (maxSteps := 4000000) only [go_sem]; refine hK _ ?_; clear hK K) | refine walkL_nil ?_ | refine walkL_ret ?_ | refine walkL_exit ?_ | refine blockA_here ?_ | refine blockA_other rfl ?_ | refine blockA_ret ?_ | refine blockA_normal ?_ | refine thenA_ret ?_ | refine thenA_exit ?_ | refine thenA_normal ?_)
      refine walkL_meetS [(28, .d (.bool (badAsk n places minutes)))] [] ?_ ?_
      · refine walkL_region fun K hK => ?_
        simp (maxSteps := 4000000) only [go_sem]
        refine ⟨_, .lent (hf := f83 places 84 [.ptr n.cells 0] _ h84 h1) (hd := rfl) (hr := rfl), ?_⟩
        simp (maxSteps := 4000000) only [go_sem]
        by_cases ho0 : (places.any (fun x => !withinB x 0 (n.places - 1))) = true
        · simp (maxSteps := 4000000) only [go_sem, ho0]
          refine hK _ ?_
          clear hK K
          refine walkL_nil ?_
          refine thenA_normal ?_
          refine ⟨rfl, ?_⟩
          rw [show (badAsk n places minutes) = (true) from by simp [badAsk, ho0]]
          simp (maxSteps := 4000000) only [go_sem]
          refine weak_of [] ?_ ?_ rfl rfl <;> simp [lessT, lessM, lessB, AV.less]
        · simp (maxSteps := 4000000) only [go_sem, ho0]
          refine ⟨_, .lent (hf := f83 minutes 85 [] _ h85 h2) (hd := rfl) (hr := rfl), ?_⟩
          simp (maxSteps := 4000000) only [go_sem, ho0]
          refine hK _ ?_
          clear hK K
          refine walkL_nil ?_
          refine thenA_normal ?_
          refine ⟨rfl, ?_⟩
          rw [show (badAsk n places minutes) = (minutes.any (fun x => !withinB x 0 2880)) from by simp [badAsk, ho0]]
          simp (maxSteps := 4000000) only [go_sem]
          refine weak_of [] ?_ ?_ rfl rfl <;> simp [lessT, lessM, lessB, AV.less]
      simp (maxSteps := 4000000) only [go_sem]
      refine walkL_cond rfl (fun hc => ?_) (fun hc => ?_)
      · repeat (first | refine walkL_seq ?_ | refine walkL_skip ?_ | refine walkL_block ?_ | (refine walkL_region fun K hK => ?_; simp (maxSteps := 4000000) only [go_sem]; refine hK _ ?_; clear hK K) | refine walkL_nil ?_ | refine walkL_ret ?_ | refine walkL_exit ?_ | refine blockA_here ?_ | refine blockA_other rfl ?_ | refine blockA_ret ?_ | refine blockA_normal ?_ | refine thenA_ret ?_ | refine thenA_exit ?_ | refine thenA_normal ?_)
        simp (maxSteps := 4000000) only [go_sem, openF, hb, hp, hc, walkCells]
      · repeat (first | refine walkL_seq ?_ | refine walkL_skip ?_ | refine walkL_block ?_ | (refine walkL_region fun K hK => ?_; simp (maxSteps := 4000000) only [go_sem]; refine hK _ ?_; clear hK K) | refine walkL_nil ?_ | refine walkL_ret ?_ | refine walkL_exit ?_ | refine blockA_here ?_ | refine blockA_other rfl ?_ | refine blockA_ret ?_ | refine blockA_normal ?_ | refine thenA_ret ?_ | refine thenA_exit ?_ | refine thenA_normal ?_)
        simp (maxSteps := 4000000) only [go_sem, openF, hb, hp, hc, walkCells]

theorem intRows_at {l : List Int} {i : Nat} {x : Int} (h : l[i]? = some x) : (intRows l)[i]? = some [.i x] := by simp [intRows, h]

theorem f52 (n : Net) (p : Party) (places minutes : List Int) (hs : n.Small) (h1 : places.length < 2 ^ 62) (h2 : minutes.length < 2 ^ 62) :
    Fn Try.prog 52 [.agg n.cells, .agg p.cells, .sl (intRows places), .sl (intRows minutes)] (.i (openF n p places minutes)) := by
  refine fn_walk 43 Try.call52 Try.func52 rfl (by decide) fun J => ?_
  simp (maxSteps := 4000000) only [go_sem, St.start, Try.ntmps52, Try.results52, Net.cells, Party.cells]
  have h56 := f56 n p hs
  by_cases hbad : badNet n = true
  · repeat (first | refine walkL_seq ?_ | refine walkL_skip ?_ | refine walkL_block ?_ | (refine walkL_region fun K hK => ?_; simp (maxSteps := 4000000) only [go_sem, checkPartyF, hbad]; (repeat (first | (refine ⟨_, .lent (hf := h56) (hd := rfl) (hr := rfl), ?_⟩; simp (maxSteps := 4000000) only [go_sem, checkPartyF, hbad]) | (refine ⟨_, .given (hf := h56) (hd := rfl) (ha := rfl), ?_⟩; simp (maxSteps := 4000000) only [go_sem, checkPartyF, hbad]))); refine hK _ ?_; clear hK K) | refine walkL_nil ?_ | refine walkL_ret ?_ | refine walkL_exit ?_ | refine blockA_here ?_ | refine blockA_other rfl ?_ | refine blockA_ret ?_ | refine blockA_normal ?_ | refine thenA_ret ?_ | refine thenA_exit ?_ | refine thenA_normal ?_)
    try simp (maxSteps := 4000000) only [go_sem, checkPartyF, hbad]
    refine walkL_true rfl ?_
    repeat (first | refine walkL_seq ?_ | refine walkL_skip ?_ | refine walkL_block ?_ | (refine walkL_region fun K hK => ?_; simp (maxSteps := 4000000) only [go_sem]; refine hK _ ?_; clear hK K) | refine walkL_nil ?_ | refine walkL_ret ?_ | refine walkL_exit ?_ | refine blockA_here ?_ | refine blockA_other rfl ?_ | refine blockA_ret ?_ | refine blockA_normal ?_ | refine thenA_ret ?_ | refine thenA_exit ?_ | refine thenA_normal ?_)
    simp (maxSteps := 4000000) only [go_sem, openF, hbad]
  by_cases hp : badParty p = true
  · repeat (first | refine walkL_seq ?_ | refine walkL_skip ?_ | refine walkL_block ?_ | (refine walkL_region fun K hK => ?_; simp (maxSteps := 4000000) only [go_sem, checkPartyF, hbad, hp]; (repeat (first | (refine ⟨_, .lent (hf := h56) (hd := rfl) (hr := rfl), ?_⟩; simp (maxSteps := 4000000) only [go_sem, checkPartyF, hbad, hp]) | (refine ⟨_, .given (hf := h56) (hd := rfl) (ha := rfl), ?_⟩; simp (maxSteps := 4000000) only [go_sem, checkPartyF, hbad, hp]))); refine hK _ ?_; clear hK K) | refine walkL_nil ?_ | refine walkL_ret ?_ | refine walkL_exit ?_ | refine blockA_here ?_ | refine blockA_other rfl ?_ | refine blockA_ret ?_ | refine blockA_normal ?_ | refine thenA_ret ?_ | refine thenA_exit ?_ | refine thenA_normal ?_)
    try simp (maxSteps := 4000000) only [go_sem, checkPartyF, hbad, hp]
    refine walkL_true rfl ?_
    repeat (first | refine walkL_seq ?_ | refine walkL_skip ?_ | refine walkL_block ?_ | (refine walkL_region fun K hK => ?_; simp (maxSteps := 4000000) only [go_sem]; refine hK _ ?_; clear hK K) | refine walkL_nil ?_ | refine walkL_ret ?_ | refine walkL_exit ?_ | refine blockA_here ?_ | refine blockA_other rfl ?_ | refine blockA_ret ?_ | refine blockA_normal ?_ | refine thenA_ret ?_ | refine thenA_exit ?_ | refine thenA_normal ?_)
    simp (maxSteps := 4000000) only [go_sem, openF, hbad, hp]
  have hg := good_places hbad
  repeat (first | refine walkL_seq ?_ | refine walkL_skip ?_ | refine walkL_block ?_ | (refine walkL_region fun K hK => ?_; simp (maxSteps := 4000000) only [go_sem, checkPartyF, hbad, hp]; (repeat (first | (refine ⟨_, .lent (hf := h56) (hd := rfl) (hr := rfl), ?_⟩; simp (maxSteps := 4000000) only [go_sem, checkPartyF, hbad, hp]) | (refine ⟨_, .given (hf := h56) (hd := rfl) (ha := rfl), ?_⟩; simp (maxSteps := 4000000) only [go_sem, checkPartyF, hbad, hp]))); refine hK _ ?_; clear hK K) | refine walkL_nil ?_ | refine walkL_ret ?_ | refine walkL_exit ?_ | refine blockA_here ?_ | refine blockA_other rfl ?_ | refine blockA_ret ?_ | refine blockA_normal ?_ | refine thenA_ret ?_ | refine thenA_exit ?_ | refine thenA_normal ?_)
  try simp (maxSteps := 4000000) only [go_sem, checkPartyF, hbad, hp]
  refine walkL_false rfl ?_
  repeat (first | refine walkL_seq ?_ | refine walkL_skip ?_ | refine walkL_block ?_ | (refine walkL_region fun K hK => ?_; simp (maxSteps := 4000000) only [go_sem]; refine hK _ ?_; clear hK K) | refine walkL_nil ?_ | refine walkL_ret ?_ | refine walkL_exit ?_ | refine blockA_here ?_ | refine blockA_other rfl ?_ | refine blockA_ret ?_ | refine blockA_normal ?_ | refine thenA_ret ?_ | refine thenA_exit ?_ | refine thenA_normal ?_)
  refine walkL_loopS (fun (i : Nat) => [(10, .d (.i i))]) (fun _ => []) (fun i => i ≤ places.length ∧ (places.take i).any (fun x => !withinB x 0 (n.places - 1)) = false) (fun i => places.length - i) 0 ?_ ⟨Nat.zero_le _, rfl⟩ ?_
  · simp (maxSteps := 4000000) only [go_sem]
    refine weak_of [] ?_ ?_ rfl rfl <;> simp [lessT, lessM, lessB, AV.less]
  · intro i ⟨hi, hall⟩
    simp (maxSteps := 4000000) only [go_sem]
    repeat (first | refine walkL_seq ?_ | refine walkL_skip ?_ | refine walkL_block ?_ | (refine walkL_region fun K hK => ?_; simp (maxSteps := 4000000) only [go_sem, intRows_len]; refine hK _ ?_; clear hK K) | refine walkL_nil ?_ | refine walkL_ret ?_ | refine walkL_exit ?_ | refine blockA_here ?_ | refine blockA_other rfl ?_ | refine blockA_ret ?_ | refine blockA_normal ?_ | refine thenA_ret ?_ | refine thenA_exit ?_ | refine thenA_normal ?_)
    refine walkL_cond rfl (fun hb => ?_) (fun hb => ?_)
    · have hlt : i < places.length := by simpa using hb
      have hw : IntKind.i64.wrap ((i : Int) + 1) = ((i + 1 : Nat) : Int) := by rw [wr_small (by omega)]; simp
      obtain ⟨x, hx⟩ : ∃ x, places[i]? = some x := ⟨_, List.getElem?_eq_getElem hlt⟩
      have h57 := f57 n x (by omega)
      have g1 := intRows_at hx
      repeat (first | refine walkL_seq ?_ | refine walkL_skip ?_ | refine walkL_block ?_ | (refine walkL_region fun K hK => ?_; simp (maxSteps := 4000000) only [go_sem]; refine hK _ ?_; clear hK K) | refine walkL_nil ?_ | refine walkL_ret ?_ | refine walkL_exit ?_ | refine blockA_here ?_ | refine blockA_other rfl ?_ | refine blockA_ret ?_ | refine blockA_normal ?_ | refine thenA_ret ?_ | refine thenA_exit ?_ | refine thenA_normal ?_)
      refine walkL_drawn (by kernel_rfl) (by kernel_rfl) fun K hK => ?_
      simp (maxSteps := 4000000) only [go_sem, g1]
      refine ⟨_, .fn (hf := h57) (hd := rfl) (hr := .inl rfl), ?_⟩
      simp (maxSteps := 4000000) only [go_sem]
      refine ⟨by kernel_rfl, hK _ ?_⟩
      clear hK K
      refine walkL_cond rfl (fun hc => ?_) (fun hc => ?_)
      · repeat (first | refine walkL_seq ?_ | refine walkL_skip ?_ | refine walkL_block ?_ | (refine walkL_region fun K hK => ?_; simp (maxSteps := 4000000) only [go_sem]; refine hK _ ?_; clear hK K) | refine walkL_nil ?_ | refine walkL_ret ?_ | refine walkL_exit ?_ | refine blockA_here ?_ | refine blockA_other rfl ?_ | refine blockA_ret ?_ | refine blockA_normal ?_ | refine thenA_ret ?_ | refine thenA_exit ?_ | refine thenA_normal ?_)
        have ha : badAsk n places minutes = true := by unfold badAsk; rw [any_of_get hx hc]; rfl
        simp (maxSteps := 4000000) only [go_sem, openF, hbad, hp, ha]
      · repeat (first | refine walkL_seq ?_ | refine walkL_skip ?_ | refine walkL_block ?_ | (refine walkL_region fun K hK => ?_; simp (maxSteps := 4000000) only [go_sem, hw]; refine hK _ ?_; clear hK K) | refine walkL_nil ?_ | refine walkL_ret ?_ | refine walkL_exit ?_ | refine blockA_here ?_ | refine blockA_other rfl ?_ | refine blockA_ret ?_ | refine blockA_normal ?_ | refine thenA_ret ?_ | refine thenA_exit ?_ | refine thenA_normal ?_)
        refine ⟨rfl, i + 1, ?_, ⟨hlt, any_take_succ hx hall hc⟩, by omega⟩
        refine weak_of [] ?_ ?_ rfl rfl <;> simp [lessT, lessM, lessB, AV.less]
    · have he : i = places.length := by (have : ¬ i < places.length := by simpa using hb); omega
      subst he
      rw [List.take_length] at hall
      repeat (first | refine walkL_seq ?_ | refine walkL_skip ?_ | refine walkL_block ?_ | (refine walkL_region fun K hK => ?_; simp (maxSteps := 4000000) only [go_sem]; refine hK _ ?_; clear hK K) | refine walkL_nil ?_ | refine walkL_ret ?_ | refine walkL_exit ?_ | refine blockA_here ?_ | refine blockA_other rfl ?_ | refine blockA_ret ?_ | refine blockA_normal ?_ | refine thenA_ret ?_ | refine thenA_exit ?_ | refine thenA_normal ?_)
      refine walkL_loopS (fun (i : Nat) => [(11, .d (.i i))]) (fun _ => []) (fun i => i ≤ minutes.length ∧ (minutes.take i).any (fun x => !withinB x 0 2880) = false) (fun i => minutes.length - i) 0 ?_ ⟨Nat.zero_le _, rfl⟩ ?_
      · simp (maxSteps := 4000000) only [go_sem]
        refine weak_of [] ?_ ?_ rfl rfl <;> simp [lessT, lessM, lessB, AV.less]
      · intro i ⟨hi, hall2⟩
        simp (maxSteps := 4000000) only [go_sem]
        repeat (first | refine walkL_seq ?_ | refine walkL_skip ?_ | refine walkL_block ?_ | (refine walkL_region fun K hK => ?_; simp (maxSteps := 4000000) only [go_sem, intRows_len]; refine hK _ ?_; clear hK K) | refine walkL_nil ?_ | refine walkL_ret ?_ | refine walkL_exit ?_ | refine blockA_here ?_ | refine blockA_other rfl ?_ | refine blockA_ret ?_ | refine blockA_normal ?_ | refine thenA_ret ?_ | refine thenA_exit ?_ | refine thenA_normal ?_)
        refine walkL_cond rfl (fun hb => ?_) (fun hb => ?_)
        · have hlt : i < minutes.length := by simpa using hb
          have hw : IntKind.i64.wrap ((i : Int) + 1) = ((i + 1 : Nat) : Int) := by rw [wr_small (by omega)]; simp
          obtain ⟨x, hx⟩ : ∃ x, minutes[i]? = some x := ⟨_, List.getElem?_eq_getElem hlt⟩
          have g1 := intRows_at hx
          repeat (first | refine walkL_seq ?_ | refine walkL_skip ?_ | refine walkL_block ?_ | (refine walkL_region fun K hK => ?_; simp (maxSteps := 4000000) only [go_sem, g1]; (repeat (first | (refine ⟨_, .lent (hf := f58 x) (hd := rfl) (hr := rfl), ?_⟩; simp (maxSteps := 4000000) only [go_sem, g1]) | (refine ⟨_, .given (hf := f58 x) (hd := rfl) (ha := rfl), ?_⟩; simp (maxSteps := 4000000) only [go_sem, g1]))); refine hK _ ?_; clear hK K) | refine walkL_nil ?_ | refine walkL_ret ?_ | refine walkL_exit ?_ | refine blockA_here ?_ | refine blockA_other rfl ?_ | refine blockA_ret ?_ | refine blockA_normal ?_ | refine thenA_ret ?_ | refine thenA_exit ?_ | refine thenA_normal ?_)
          refine walkL_cond rfl (fun hc => ?_) (fun hc => ?_)
          · repeat (first | refine walkL_seq ?_ | refine walkL_skip ?_ | refine walkL_block ?_ | (refine walkL_region fun K hK => ?_; simp (maxSteps := 4000000) only [go_sem]; refine hK _ ?_; clear hK K) | refine walkL_nil ?_ | refine walkL_ret ?_ | refine walkL_exit ?_ | refine blockA_here ?_ | refine blockA_other rfl ?_ | refine blockA_ret ?_ | refine blockA_normal ?_ | refine thenA_ret ?_ | refine thenA_exit ?_ | refine thenA_normal ?_)
            have ha : badAsk n places minutes = true := by unfold badAsk; rw [any_of_get hx hc]; simp
            simp (maxSteps := 4000000) only [go_sem, openF, hbad, hp, ha]
          · repeat (first | refine walkL_seq ?_ | refine walkL_skip ?_ | refine walkL_block ?_ | (refine walkL_region fun K hK => ?_; simp (maxSteps := 4000000) only [go_sem, hw]; refine hK _ ?_; clear hK K) | refine walkL_nil ?_ | refine walkL_ret ?_ | refine walkL_exit ?_ | refine blockA_here ?_ | refine blockA_other rfl ?_ | refine blockA_ret ?_ | refine blockA_normal ?_ | refine thenA_ret ?_ | refine thenA_exit ?_ | refine thenA_normal ?_)
            refine ⟨rfl, i + 1, ?_, ⟨hlt, any_take_succ hx hall2 hc⟩, by omega⟩
            refine weak_of [] ?_ ?_ rfl rfl <;> simp [lessT, lessM, lessB, AV.less]
        · have he : i = minutes.length := by (have : ¬ i < minutes.length := by simpa using hb); omega
          subst he
          rw [List.take_length] at hall2
          repeat (first | refine walkL_seq ?_ | refine walkL_skip ?_ | refine walkL_block ?_ | (refine walkL_region fun K hK => ?_; simp (maxSteps := 4000000) only [go_sem]; refine hK _ ?_; clear hK K) | refine walkL_nil ?_ | refine walkL_ret ?_ | refine walkL_exit ?_ | refine blockA_here ?_ | refine blockA_other rfl ?_ | refine blockA_ret ?_ | refine blockA_normal ?_ | refine thenA_ret ?_ | refine thenA_exit ?_ | refine thenA_normal ?_)
          have ha : badAsk n places minutes = false := by unfold badAsk; rw [hall, hall2]; rfl
          simp (maxSteps := 4000000) only [go_sem, openF, hbad, hp, ha]
end Go.Ab
namespace Go.Ab
open Go.RowKit Go.Proofs
set_option maxHeartbeats 4000000
set_option maxRecDepth 20000
attribute [local irreducible] WalkL Walk

def iterL {α : Type} (f : α → α) : Nat → α → α
  | 0, a => a
  | k + 1, a => f (iterL f k a)

/-- Whether a path is walked, in a round of the document's table. -/
def relaxB (p : Party) (but : Int) (l : List Int) (w : Path × Nat) : Bool := ((w.2 : Int) != but) && (decide (w.1.grade ≤ p.grade) && decide (getI l w.1.frm < 1073741824))
def relaxT (p : Party) (high : Bool) (but : Int) (l : List Int) (w : Path × Nat) : List Int :=
  if relaxB p but l w then l.set w.1.to.toNat (min (getI l w.1.to) (stepF w.1 p (getI l w.1.frm) high)) else l
def passT (n : Net) (p : Party) (high : Bool) (but : Int) (l : List Int) : List Int := n.paths.zipIdx.foldl (relaxT p high but) l
def tableL (n : Net) (p : Party) (frm start : Int) (high : Bool) (but : Int) : List Int := iterL (passT n p high but) n.places.toNat (arrivals0 n frm start)

theorem relaxT_len (p : Party) (high : Bool) (but : Int) (l : List Int) (w : Path × Nat) : (relaxT p high but l w).length = l.length := by
  unfold relaxT; split <;> simp
theorem foldT_len (p : Party) (high : Bool) (but : Int) : ∀ (ws : List (Path × Nat)) (l : List Int), (ws.foldl (relaxT p high but) l).length = l.length
  | [], _ => rfl
  | w :: ws, l => by rw [List.foldl_cons, foldT_len p high but ws, relaxT_len]
theorem iterL_len (f : List Int → List Int) (hf : ∀ l, (f l).length = l.length) : ∀ (k : Nat) (l : List Int), (iterL f k l).length = l.length
  | 0, _ => rfl
  | k + 1, l => by rw [iterL, hf, iterL_len f hf k l]

theorem passT_len (n : Net) (p : Party) (high : Bool) (but : Int) (l : List Int) : (passT n p high but l).length = l.length := foldT_len p high but _ l

theorem filled_set (c : Int) (m i : Nat) (h : i < m) : (filled c m i).set i [.i c] = filled c m (i + 1) := by
  unfold filled
  rw [List.set_append_right _ _ (by simp), List.length_replicate, Nat.sub_self]
  obtain ⟨k, hk⟩ : ∃ k, m - i = k + 1 := ⟨m - i - 1, by omega⟩
  rw [hk, List.replicate_succ, List.set_cons_zero, show m - (i + 1) = k by omega, List.replicate_succ', List.append_assoc]
  rfl

theorem f76 (n : Net) (p : Party) (frm start : Int) (high : Bool) (but : Int) (hn : n.Ok) (hfr : 0 ≤ frm ∧ frm < n.places) :
    Fn Try.prog 76 [.agg n.cells, .agg p.cells, .i frm, .i start, .bool high, .i but] (.sl (intRows (tableL n p frm start high but))) := by
  obtain ⟨m, hm⟩ : ∃ m : Nat, n.places = m := ⟨n.places.toNat, by have := hn.places.1; omega⟩
  have hpl := hn.places
  have hmb : m < 2 ^ 20 := by omega
  refine fn_walk 90 Try.call76 Try.func76 rfl (by decide) fun J => ?_
  simp (maxSteps := 4000000) only [go_sem, St.start, Try.ntmps76, Try.results76, Net.cells, Party.cells]
  have hmk : n.places ≤ 1099511627776 := by omega
  have htn : n.places.toNat = m := by omega
  repeat (first | refine walkL_seq ?_ | refine walkL_skip ?_ | refine walkL_block ?_ | (refine walkL_region fun K hK => ?_; simp (maxSteps := 4000000) only [go_sem, hpl.1, hmk, htn]; refine hK _ ?_; clear hK K) | refine walkL_nil ?_ | refine walkL_ret ?_ | refine walkL_exit ?_ | refine blockA_here ?_ | refine blockA_other rfl ?_ | refine blockA_ret ?_ | refine blockA_normal ?_ | refine thenA_ret ?_ | refine thenA_exit ?_ | refine thenA_normal ?_)
  refine walkL_loopS (fun (i : Nat) => [(14, .d (.i i))]) (fun i => [(20, some (.arr 3 1 (filled never m i)))]) (fun i => i ≤ m) (fun i => m - i) 0 ?_ (Nat.zero_le _) ?_
  · simp (maxSteps := 4000000) only [go_sem]
    rw [show filled never m 0 = List.replicate m [.i 0] from by simp [filled]]
    refine weak_of [] ?_ ?_ rfl rfl <;> simp [lessT, lessM, lessB, AV.less]
  · intro i hi
    have hl := filled_len never m i hi
    simp (maxSteps := 4000000) only [go_sem]
    repeat (first | refine walkL_seq ?_ | refine walkL_skip ?_ | refine walkL_block ?_ | (refine walkL_region fun K hK => ?_; simp (maxSteps := 4000000) only [go_sem]; refine hK _ ?_; clear hK K) | refine walkL_nil ?_ | refine walkL_ret ?_ | refine walkL_exit ?_ | refine blockA_here ?_ | refine blockA_other rfl ?_ | refine blockA_ret ?_ | refine blockA_normal ?_ | refine thenA_ret ?_ | refine thenA_exit ?_ | refine thenA_normal ?_)
    refine walkL_cond rfl (fun hb => ?_) (fun hb => ?_)
    · have hb : (i : Int) < n.places := by simpa using hb
      have hlt : i < m := by omega
      have hw : IntKind.i64.wrap ((i : Int) + 1) = ((i + 1 : Nat) : Int) := by rw [wr_small (by omega)]; simp
      have hg : (filled never m i)[i]? = some [.i 0] := by
        unfold filled
        rw [List.getElem?_append_right (by simp), List.length_replicate, Nat.sub_self]
        obtain ⟨k, hk⟩ : ∃ k, m - i = k + 1 := ⟨m - i - 1, by omega⟩
        rw [hk]; rfl
      have hs : (filled never m i).set i [.i 1073741824] = filled never m (i + 1) := filled_set never m i hlt
      repeat (first | refine walkL_seq ?_ | refine walkL_skip ?_ | refine walkL_block ?_ | (refine walkL_region fun K hK => ?_; simp (maxSteps := 4000000) only [go_sem, hl, hlt, hg, hw]; refine hK _ ?_; clear hK K) | refine walkL_nil ?_ | refine walkL_ret ?_ | refine walkL_exit ?_ | refine blockA_here ?_ | refine blockA_other rfl ?_ | refine blockA_ret ?_ | refine blockA_normal ?_ | refine thenA_ret ?_ | refine thenA_exit ?_ | refine thenA_normal ?_)
      refine ⟨rfl, i + 1, ?_, hlt, by omega⟩
      rw [← hs]
      refine weak_of [] ?_ ?_ rfl rfl <;> simp [lessT, lessM, lessB, AV.less]
    · have he : i = m := by (have : ¬ (i : Int) < n.places := by simpa using hb); omega
      subst he
      have hfl : filled never i i = intRows (List.replicate i never) := by rw [← intRows_replicate]; simp [filled]
      have hlt : frm.toNat < i := by omega
      have hset : (List.replicate i never).set frm.toNat start = arrivals0 n frm start := by rw [arrivals0, hm]; rfl
      have hg : (intRows (List.replicate i never))[frm.toNat]? = some [.i never] := by simp [intRows, hlt]
      have hrl : (intRows (List.replicate i never)).length = i := by simp [intRows]
      repeat (first | refine walkL_seq ?_ | refine walkL_skip ?_ | refine walkL_block ?_ | (refine walkL_region fun K hK => ?_; simp (maxSteps := 4000000) only [go_sem, hfl, hfr.1, hlt, hg, hrl, intRows_set, hset]; refine hK _ ?_; clear hK K) | refine walkL_nil ?_ | refine walkL_ret ?_ | refine walkL_exit ?_ | refine blockA_here ?_ | refine blockA_other rfl ?_ | refine blockA_ret ?_ | refine blockA_normal ?_ | refine thenA_ret ?_ | refine thenA_exit ?_ | refine thenA_normal ?_)
      refine walkL_loopS (fun (r : Nat) => [(15, .d (.i r))]) (fun r => [(20, some (.arr 3 1 (intRows (iterL (passT n p high but) r (arrivals0 n frm start)))))]) (fun r => r ≤ i) (fun r => i - r) 0 ?_ (Nat.zero_le _) ?_
      · simp (maxSteps := 4000000) only [go_sem]
        refine weak_of [] ?_ ?_ rfl rfl <;> simp [lessT, lessM, lessB, AV.less]
        rfl
      · intro r hr
        obtain ⟨l, hl0⟩ : ∃ l, l = iterL (passT n p high but) r (arrivals0 n frm start) := ⟨_, rfl⟩
        have hll : l.length = i := by rw [hl0, iterL_len _ (passT_len n p high but)]; simp [arrivals0, hm]
        rw [← hl0]
        simp (maxSteps := 4000000) only [go_sem]
        repeat (first | refine walkL_seq ?_ | refine walkL_skip ?_ | refine walkL_block ?_ | (refine walkL_region fun K hK => ?_; simp (maxSteps := 4000000) only [go_sem]; refine hK _ ?_; clear hK K) | refine walkL_nil ?_ | refine walkL_ret ?_ | refine walkL_exit ?_ | refine blockA_here ?_ | refine blockA_other rfl ?_ | refine blockA_ret ?_ | refine blockA_normal ?_ | refine thenA_ret ?_ | refine thenA_exit ?_ | refine thenA_normal ?_)
        refine walkL_cond rfl (fun hb => ?_) (fun hb => ?_)
        · have hb : (r : Int) < n.places := by simpa using hb
          have hlr : r < i := by omega
          have hwr : IntKind.i64.wrap ((r : Int) + 1) = ((r + 1 : Nat) : Int) := by rw [wr_small (by omega)]; simp
          have hbound := hn.paths
          repeat (first | refine walkL_seq ?_ | refine walkL_skip ?_ | refine walkL_block ?_ | (refine walkL_region fun K hK => ?_; simp (maxSteps := 4000000) only [go_sem]; refine hK _ ?_; clear hK K) | refine walkL_nil ?_ | refine walkL_ret ?_ | refine walkL_exit ?_ | refine blockA_here ?_ | refine blockA_other rfl ?_ | refine blockA_ret ?_ | refine blockA_normal ?_ | refine thenA_ret ?_ | refine thenA_exit ?_ | refine thenA_normal ?_)
          refine walkL_loopS (fun (j : Nat) => [(16, .d (.i j))]) (fun j => [(20, some (.arr 3 1 (intRows ((n.paths.zipIdx.take j).foldl (relaxT p high but) l))))]) (fun j => j ≤ n.paths.length) (fun j => n.paths.length - j) 0 ?_ (Nat.zero_le _) ?_
          · simp (maxSteps := 4000000) only [go_sem]
            refine weak_of [] ?_ ?_ rfl rfl <;> simp [lessT, lessM, lessB, AV.less]
          · intro j hj
            obtain ⟨a, ha0⟩ : ∃ a, a = (n.paths.zipIdx.take j).foldl (relaxT p high but) l := ⟨_, rfl⟩
            have hal : a.length = i := by rw [ha0, foldT_len, hll]
            rw [← ha0]
            simp (maxSteps := 4000000) only [go_sem]
            repeat (first | refine walkL_seq ?_ | refine walkL_skip ?_ | refine walkL_block ?_ | (refine walkL_region fun K hK => ?_; simp (maxSteps := 4000000) only [go_sem]; refine hK _ ?_; clear hK K) | refine walkL_nil ?_ | refine walkL_ret ?_ | refine walkL_exit ?_ | refine blockA_here ?_ | refine blockA_other rfl ?_ | refine blockA_ret ?_ | refine blockA_normal ?_ | refine thenA_ret ?_ | refine thenA_exit ?_ | refine thenA_normal ?_)
            refine walkL_cond rfl (fun hb => ?_) (fun hb => ?_)
            · have hlj : j < n.paths.length := by simpa using hb
              have hwj : IntKind.i64.wrap ((j : Int) + 1) = ((j + 1 : Nat) : Int) := by rw [wr_small (by omega)]; simp
              obtain ⟨x, hx⟩ : ∃ x, n.paths[j]? = some x := ⟨_, List.getElem?_eq_getElem hlj⟩
              have hmem := List.mem_of_getElem? hx
              have hf := hn.frm x hmem
              have ht := hn.to x hmem
              have g1 : (intRows a)[x.to.toNat]? = some [.i (getI a x.to)] := intRows_get ht.1 (by omega)
              have g2 : (intRows a)[x.frm.toNat]? = some [.i (getI a x.frm)] := intRows_get hf.1 (by omega)
              have g3 : x.to.toNat < (intRows a).length := by rw [intRows_len]; omega
              have g4 : x.frm.toNat < (intRows a).length := by rw [intRows_len]; omega
              have hnx : (n.paths.zipIdx.take (j + 1)).foldl (relaxT p high but) l = relaxT p high but a (x, j) := by rw [ha0]; exact foldl_take_succ _ _ _ _ _ (by simp [hx])
              have h61 := f61 n p j x hx
              have h35 := f35 n p j x (getI a x.frm) high hx (by have := hn.opens x hmem; omega)
              repeat (first | refine walkL_seq ?_ | refine walkL_skip ?_ | refine walkL_block ?_ | (refine walkL_region fun K hK => ?_; simp (maxSteps := 4000000) only [go_sem, hx, List.getElem?_map, Path.row]; refine hK _ ?_; clear hK K) | refine walkL_nil ?_ | refine walkL_ret ?_ | refine walkL_exit ?_ | refine blockA_here ?_ | refine blockA_other rfl ?_ | refine blockA_ret ?_ | refine blockA_normal ?_ | refine thenA_ret ?_ | refine thenA_exit ?_ | refine thenA_normal ?_)
              refine walkL_meetS [(68, .d (.bool (relaxB p but a (x, j))))] [] ?_ ?_
              · refine walkL_region fun K hK => ?_
                simp (maxSteps := 4000000) only [go_sem, hx, g1, g2, g3, g4, ht.1, hf.1, List.getElem?_map]
                by_cases ho0 : ((j : Int) != but) = true
                · simp (maxSteps := 4000000) only [go_sem, hx, g1, g2, g3, g4, ht.1, hf.1, List.getElem?_map, ho0]
                  refine ⟨_, .lent (hf := h61) (hd := rfl) (hr := rfl), ?_⟩
                  simp (maxSteps := 4000000) only [go_sem, hx, g1, g2, g3, g4, ht.1, hf.1, List.getElem?_map, ho0]
                  by_cases ho1 : (decide (x.grade ≤ p.grade)) = true
                  · simp (maxSteps := 4000000) only [go_sem, hx, g1, g2, g3, g4, ht.1, hf.1, List.getElem?_map, ho0, ho1]
                    refine hK _ ?_
                    clear hK K
                    refine walkL_nil ?_
                    refine thenA_normal ?_
                    refine ⟨rfl, ?_⟩
                    rw [show (relaxB p but a (x, j)) = (decide (getI a x.frm < 1073741824)) from by simp [relaxB, ho0, ho1]]
                    simp (maxSteps := 4000000) only [go_sem]
                    refine weak_of [] ?_ ?_ rfl rfl <;> simp [lessT, lessM, lessB, AV.less]
                  · simp (maxSteps := 4000000) only [go_sem, hx, g1, g2, g3, g4, ht.1, hf.1, List.getElem?_map, ho0, ho1]
                    refine hK _ ?_
                    clear hK K
                    refine walkL_nil ?_
                    refine thenA_normal ?_
                    refine ⟨rfl, ?_⟩
                    rw [show (relaxB p but a (x, j)) = (false) from by simp [relaxB, ho0, ho1]]
                    simp (maxSteps := 4000000) only [go_sem]
                    refine weak_of [] ?_ ?_ rfl rfl <;> simp [lessT, lessM, lessB, AV.less]
                · simp (maxSteps := 4000000) only [go_sem, hx, g1, g2, g3, g4, ht.1, hf.1, List.getElem?_map, ho0]
                  refine hK _ ?_
                  clear hK K
                  refine walkL_nil ?_
                  refine thenA_normal ?_
                  refine ⟨rfl, ?_⟩
                  rw [show (relaxB p but a (x, j)) = (false) from by simp [relaxB, ho0]]
                  simp (maxSteps := 4000000) only [go_sem]
                  refine weak_of [] ?_ ?_ rfl rfl <;> simp [lessT, lessM, lessB, AV.less]
              simp (maxSteps := 4000000) only [go_sem]
              refine walkL_cond rfl (fun hc => ?_) (fun hc => ?_)
              · refine walkL_drawn (by kernel_rfl) (by kernel_rfl) fun K hK => ?_
                simp (maxSteps := 4000000) only [go_sem, g1, g2, g3, g4, ht.1, hf.1]
                refine ⟨_, .fn (hf := h35) (hd := rfl) (hr := .inl rfl), ?_⟩
                simp (maxSteps := 4000000) only [go_sem, g1, g2, g3, g4, ht.1, hf.1]
                refine ⟨by kernel_rfl, hK _ ?_⟩
                clear hK K
                repeat (first | refine walkL_seq ?_ | refine walkL_skip ?_ | refine walkL_block ?_ | (refine walkL_region fun K hK => ?_; simp (maxSteps := 4000000) only [go_sem, hwj]; refine hK _ ?_; clear hK K) | refine walkL_nil ?_ | refine walkL_ret ?_ | refine walkL_exit ?_ | refine blockA_here ?_ | refine blockA_other rfl ?_ | refine blockA_ret ?_ | refine blockA_normal ?_ | refine thenA_ret ?_ | refine thenA_exit ?_ | refine thenA_normal ?_)
                refine ⟨rfl, j + 1, ?_, hlj, by omega⟩
                rw [hnx, relaxT, if_pos hc, ← intRows_set]
                refine weak_of [] ?_ ?_ rfl rfl <;> simp [lessT, lessM, lessB, AV.less]
              · repeat (first | refine walkL_seq ?_ | refine walkL_skip ?_ | refine walkL_block ?_ | (refine walkL_region fun K hK => ?_; simp (maxSteps := 4000000) only [go_sem, hwj]; refine hK _ ?_; clear hK K) | refine walkL_nil ?_ | refine walkL_ret ?_ | refine walkL_exit ?_ | refine blockA_here ?_ | refine blockA_other rfl ?_ | refine blockA_ret ?_ | refine blockA_normal ?_ | refine thenA_ret ?_ | refine thenA_exit ?_ | refine thenA_normal ?_)
                refine ⟨rfl, j + 1, ?_, hlj, by omega⟩
                rw [hnx, relaxT, if_neg (by rw [hc]; simp)]
                refine weak_of [] ?_ ?_ rfl rfl <;> simp [lessT, lessM, lessB, AV.less]
            · have he : j = n.paths.length := by (have : ¬ j < n.paths.length := by simpa using hb); omega
              have hdone : a = passT n p high but l := by rw [ha0, he, passT, show n.paths.length = n.paths.zipIdx.length by simp, List.take_length]
              repeat (first | refine walkL_seq ?_ | refine walkL_skip ?_ | refine walkL_block ?_ | (refine walkL_region fun K hK => ?_; simp (maxSteps := 4000000) only [go_sem, hwr]; refine hK _ ?_; clear hK K) | refine walkL_nil ?_ | refine walkL_ret ?_ | refine walkL_exit ?_ | refine blockA_here ?_ | refine blockA_other rfl ?_ | refine blockA_ret ?_ | refine blockA_normal ?_ | refine thenA_ret ?_ | refine thenA_exit ?_ | refine thenA_normal ?_)
              refine ⟨rfl, r + 1, ?_, hlr, by omega⟩
              rw [iterL, ← hl0, ← hdone]
              refine weak_of [] ?_ ?_ rfl rfl <;> simp [lessT, lessM, lessB, AV.less]
        · have he : r = i := by (have : ¬ (r : Int) < n.places := by simpa using hb); omega
          repeat (first | refine walkL_seq ?_ | refine walkL_skip ?_ | refine walkL_block ?_ | (refine walkL_region fun K hK => ?_; simp (maxSteps := 4000000) only [go_sem]; refine hK _ ?_; clear hK K) | refine walkL_nil ?_ | refine walkL_ret ?_ | refine walkL_exit ?_ | refine blockA_here ?_ | refine blockA_other rfl ?_ | refine blockA_ret ?_ | refine blockA_normal ?_ | refine thenA_ret ?_ | refine thenA_exit ?_ | refine thenA_normal ?_)
          simp (maxSteps := 4000000) only [go_sem, hl0, he, tableL, htn]
end Go.Ab
namespace Go.Ab
open Go.RowKit Go.Proofs
set_option maxHeartbeats 4000000
set_option maxRecDepth 20000
attribute [local irreducible] WalkL Walk

def sureF (n : Net) (p : Party) (frm start to but : Int) : Int := getI (tableL n p frm start true but) to

theorem table_len (n : Net) (p : Party) (frm start : Int) (high : Bool) (but : Int) : (tableL n p frm start high but).length = n.places.toNat := by
  rw [tableL, iterL_len _ (passT_len n p high but)]; simp [arrivals0]

theorem f55 (n : Net) (p : Party) (frm start to but : Int) (hn : n.Ok) (hfr : 0 ≤ frm ∧ frm < n.places) (hto : 0 ≤ to ∧ to < n.places) :
    Fn Try.prog 55 [.agg n.cells, .agg p.cells, .i frm, .i start, .i to, .i but] (.i (sureF n p frm start to but)) := by
  refine fn_walk 22 Try.call55 Try.func55 rfl (by decide) fun J => ?_
  simp (maxSteps := 4000000) only [go_sem, St.start, Try.ntmps55, Try.results55, Net.cells, Party.cells]
  have hg : (intRows (tableL n p frm start true but))[to.toNat]? = some [.i (getI (tableL n p frm start true but) to)] := intRows_get hto.1 (by rw [table_len]; omega)
  repeat (first | refine walkL_seq ?_ | refine walkL_skip ?_ | refine walkL_block ?_ | (refine walkL_region fun K hK => ?_; simp (maxSteps := 4000000) only [go_sem, hg, hto.1]; (repeat (first | (refine ⟨_, .lent (hf := f76 n p frm start true but hn hfr) (hd := rfl) (hr := rfl), ?_⟩; simp (maxSteps := 4000000) only [go_sem, hg, hto.1]) | (refine ⟨_, .given (hf := f76 n p frm start true but hn hfr) (hd := rfl) (ha := rfl), ?_⟩; simp (maxSteps := 4000000) only [go_sem, hg, hto.1]))); refine hK _ ?_; clear hK K) | refine walkL_nil ?_ | refine walkL_ret ?_ | refine walkL_exit ?_ | refine blockA_here ?_ | refine blockA_other rfl ?_ | refine blockA_ret ?_ | refine blockA_normal ?_ | refine thenA_ret ?_ | refine thenA_exit ?_ | refine thenA_normal ?_)
  simp (maxSteps := 4000000) only [go_sem, sureF]

theorem intRows_head (l : List Int) : headIs 1 (intRows l) = true := by cases l <;> rfl

def shown1 (t : Int) : Int := if t ≥ never then -1 else t

theorem map_step {f : Int → Int} (l : List Int) (i : Nat) (h : i < l.length) : ((l.take i).map f ++ l.drop i).set i (f l[i]) = (l.take (i + 1)).map f ++ l.drop (i + 1) := by
  have h1 : ((l.take i).map f).length = i := by simp; omega
  rw [List.set_append_right _ _ (by omega), h1, Nat.sub_self, List.drop_eq_getElem_cons h, List.set_cons_zero, List.take_add_one, List.map_append]
  simp [h]

theorem map_get {f : Int → Int} (l : List Int) (i : Nat) (h : i < l.length) : ((l.take i).map f ++ l.drop i)[i]? = some l[i] := by
  have h1 : ((l.take i).map f).length = i := by simp; omega
  rw [List.getElem?_append_right (by omega), h1]
  simp [h]

theorem map_len {f : Int → Int} (l : List Int) (i : Nat) : ((l.take i).map f ++ l.drop i).length = l.length := by simp; omega

theorem f75 (l : List Int) (hl : l.length < 2 ^ 30) : Fn Try.prog 75 [.sl (intRows l)] (.sl (intRows (l.map shown1))) := by
  refine fn_walk 23 Try.call75 Try.func75 rfl (by decide) fun J => ?_
  simp (maxSteps := 4000000) only [go_sem, St.start, Try.ntmps75, Try.results75]
  have h1 : l.length ≤ 549755813888 := by omega
  repeat (first | refine walkL_seq ?_ | refine walkL_skip ?_ | refine walkL_block ?_ | (refine walkL_region fun K hK => ?_; simp (maxSteps := 4000000) only [go_sem, intRows_len, intRows_head, h1]; refine hK _ ?_; clear hK K) | refine walkL_nil ?_ | refine walkL_ret ?_ | refine walkL_exit ?_ | refine blockA_here ?_ | refine blockA_other rfl ?_ | refine blockA_ret ?_ | refine blockA_normal ?_ | refine thenA_ret ?_ | refine thenA_exit ?_ | refine thenA_normal ?_)
  refine walkL_loopS (fun (i : Nat) => [(4, .d (.i i)), (3, .own 5)]) (fun i => [(5, some (.arr 3 1 (intRows ((l.take i).map shown1 ++ l.drop i))))]) (fun i => i ≤ l.length) (fun i => l.length - i) 0 ?_ (Nat.zero_le _) ?_
  · simp (maxSteps := 4000000) only [go_sem]
    refine weak_of [] ?_ ?_ rfl rfl <;> simp [lessT, lessM, lessB, AV.less]
  · intro i hi
    have hlen := map_len (f := shown1) l i
    simp (maxSteps := 4000000) only [go_sem]
    repeat (first | refine walkL_seq ?_ | refine walkL_skip ?_ | refine walkL_block ?_ | (refine walkL_region fun K hK => ?_; simp (maxSteps := 4000000) only [go_sem, intRows_len, hlen]; refine hK _ ?_; clear hK K) | refine walkL_nil ?_ | refine walkL_ret ?_ | refine walkL_exit ?_ | refine blockA_here ?_ | refine blockA_other rfl ?_ | refine blockA_ret ?_ | refine blockA_normal ?_ | refine thenA_ret ?_ | refine thenA_exit ?_ | refine thenA_normal ?_)
    refine walkL_cond rfl (fun hb => ?_) (fun hb => ?_)
    · have hlt : i < l.length := by simpa using hb
      have hw : IntKind.i64.wrap ((i : Int) + 1) = ((i + 1 : Nat) : Int) := by rw [wr_small (by omega)]; simp
      have g1 : (intRows ((l.take i).map shown1 ++ l.drop i))[i]? = some [.i l[i]] := intRows_at (map_get l i hlt)
      have hn := map_step (f := shown1) l i hlt
      repeat (first | refine walkL_seq ?_ | refine walkL_skip ?_ | refine walkL_block ?_ | (refine walkL_region fun K hK => ?_; simp (maxSteps := 4000000) only [go_sem, hlt, intRows_len, hlen, g1]; refine hK _ ?_; clear hK K) | refine walkL_nil ?_ | refine walkL_ret ?_ | refine walkL_exit ?_ | refine blockA_here ?_ | refine blockA_other rfl ?_ | refine blockA_ret ?_ | refine blockA_normal ?_ | refine thenA_ret ?_ | refine thenA_exit ?_ | refine thenA_normal ?_)
      refine walkL_cond rfl (fun hc => ?_) (fun hc => ?_)
      · have hc : l[i] ≥ never := by simpa [never] using hc
        have ht : shown1 l[i] = -1 := by unfold shown1; rw [if_pos hc]
        rw [ht] at hn
        repeat (first | refine walkL_seq ?_ | refine walkL_skip ?_ | refine walkL_block ?_ | (refine walkL_region fun K hK => ?_; simp (maxSteps := 4000000) only [go_sem, hlt, intRows_len, hlen, g1, hw]; refine hK _ ?_; clear hK K) | refine walkL_nil ?_ | refine walkL_ret ?_ | refine walkL_exit ?_ | refine blockA_here ?_ | refine blockA_other rfl ?_ | refine blockA_ret ?_ | refine blockA_normal ?_ | refine thenA_ret ?_ | refine thenA_exit ?_ | refine thenA_normal ?_)
        refine ⟨rfl, i + 1, ?_, hlt, by omega⟩
        rw [← hn, ← intRows_set]
        refine weak_of [] ?_ ?_ rfl rfl <;> simp [lessT, lessM, lessB, AV.less]
      · have hc : ¬ l[i] ≥ never := by simpa [never] using hc
        have ht : shown1 l[i] = l[i] := by unfold shown1; rw [if_neg hc]
        repeat (first | refine walkL_seq ?_ | refine walkL_skip ?_ | refine walkL_block ?_ | (refine walkL_region fun K hK => ?_; simp (maxSteps := 4000000) only [go_sem, hlt, intRows_len, hlen, g1, hw]; refine hK _ ?_; clear hK K) | refine walkL_nil ?_ | refine walkL_ret ?_ | refine walkL_exit ?_ | refine blockA_here ?_ | refine blockA_other rfl ?_ | refine blockA_ret ?_ | refine blockA_normal ?_ | refine thenA_ret ?_ | refine thenA_exit ?_ | refine thenA_normal ?_)
        refine ⟨rfl, i + 1, ?_, hlt, by omega⟩
        rw [ht, set_same (map_get l i hlt)] at hn
        rw [← hn]
        refine weak_of [] ?_ ?_ rfl rfl <;> simp [lessT, lessM, lessB, AV.less]
    · have he : i = l.length := by (have : ¬ i < l.length := by simpa using hb); omega
      subst he
      repeat (first | refine walkL_seq ?_ | refine walkL_skip ?_ | refine walkL_block ?_ | (refine walkL_region fun K hK => ?_; simp (maxSteps := 4000000) only [go_sem]; refine hK _ ?_; clear hK K) | refine walkL_nil ?_ | refine walkL_ret ?_ | refine walkL_exit ?_ | refine blockA_here ?_ | refine blockA_other rfl ?_ | refine blockA_ret ?_ | refine blockA_normal ?_ | refine thenA_ret ?_ | refine thenA_exit ?_ | refine thenA_normal ?_)
      simp (maxSteps := 4000000) only [go_sem, List.take_length, List.drop_length]

/-- The positions of what is at most d. -/
def untilL (d : Int) (l : List Int) : List Int := (l.zipIdx.filter fun x => decide (x.1 ≤ d)).map fun x => (x.2 : Int)

theorem untilL_succ {d : Int} {l : List Int} {i : Nat} {x : Int} (h : l[i]? = some x) : untilL d (l.take (i + 1)) = untilL d (l.take i) ++ if x ≤ d then [(i : Int)] else [] := by
  have hlt := (List.getElem?_eq_some_iff.1 h).1
  rw [List.take_add_one, h]
  simp only [Option.toList_some, untilL, List.zipIdx_append, List.filter_append, List.map_append]
  congr 1
  simp only [List.length_take, Nat.min_eq_left (Nat.le_of_lt hlt), Nat.zero_add, List.zipIdx_cons, List.zipIdx_nil, List.filter_cons]
  by_cases hx : x ≤ d <;> simp [hx]

theorem untilL_len (d : Int) (l : List Int) : (untilL d l).length ≤ l.length := by
  unfold untilL
  rw [List.length_map]
  exact Nat.le_trans (List.length_filter_le _ _) (by simp)

theorem intRows_append (a b : List Int) : intRows a ++ intRows b = intRows (a ++ b) := by simp [intRows]

theorem f80 (l : List Int) (d : Int) (hl : l.length < 2 ^ 30) : FnS Try.prog 80 [.sl (intRows l), .i d] 3 1 (intRows (untilL d l)) := by
  refine fnS_walk 24 Try.call80 Try.func80 rfl (by decide) fun J => ?_
  simp (maxSteps := 4000000) only [go_sem, St.start, Try.ntmps80, Try.results80]
  repeat (first | refine walkL_seq ?_ | refine walkL_skip ?_ | refine walkL_block ?_ | (refine walkL_region fun K hK => ?_; simp (maxSteps := 4000000) only [go_sem]; refine hK _ ?_; clear hK K) | refine walkL_nil ?_ | refine walkL_ret ?_ | refine walkL_exit ?_ | refine blockA_here ?_ | refine blockA_other rfl ?_ | refine blockA_ret ?_ | refine blockA_normal ?_ | refine thenA_ret ?_ | refine thenA_exit ?_ | refine thenA_normal ?_)
  refine walkL_loopS (fun (i : Nat) => [(6, .d (.i i)), (5, .own 5)]) (fun i => [(5, some (.arr 3 1 (intRows (untilL d (l.take i)))))]) (fun i => i ≤ l.length) (fun i => l.length - i) 0 ?_ (Nat.zero_le _) ?_
  · simp (maxSteps := 4000000) only [go_sem]
    refine weak_of [5] ?_ ?_ rfl rfl <;> simp [lessT, lessM, lessB, AV.less, untilL, intRows]
  · intro i hi
    simp (maxSteps := 4000000) only [go_sem]
    repeat (first | refine walkL_seq ?_ | refine walkL_skip ?_ | refine walkL_block ?_ | (refine walkL_region fun K hK => ?_; simp (maxSteps := 4000000) only [go_sem, intRows_len]; refine hK _ ?_; clear hK K) | refine walkL_nil ?_ | refine walkL_ret ?_ | refine walkL_exit ?_ | refine blockA_here ?_ | refine blockA_other rfl ?_ | refine blockA_ret ?_ | refine blockA_normal ?_ | refine thenA_ret ?_ | refine thenA_exit ?_ | refine thenA_normal ?_)
    refine walkL_cond rfl (fun hb => ?_) (fun hb => ?_)
    · have hlt : i < l.length := by simpa using hb
      have hw : IntKind.i64.wrap ((i : Int) + 1) = ((i + 1 : Nat) : Int) := by rw [wr_small (by omega)]; simp
      obtain ⟨x, hx⟩ : ∃ x, l[i]? = some x := ⟨_, List.getElem?_eq_getElem hlt⟩
      have g1 := intRows_at hx
      have hn := untilL_succ (d := d) hx
      have hlen : (untilL d (l.take i)).length + 1 ≤ 549755813888 := by
        have := untilL_len d (l.take i)
        simp only [List.length_take] at this
        omega
      repeat (first | refine walkL_seq ?_ | refine walkL_skip ?_ | refine walkL_block ?_ | (refine walkL_region fun K hK => ?_; simp (maxSteps := 4000000) only [go_sem, g1]; refine hK _ ?_; clear hK K) | refine walkL_nil ?_ | refine walkL_ret ?_ | refine walkL_exit ?_ | refine blockA_here ?_ | refine blockA_other rfl ?_ | refine blockA_ret ?_ | refine blockA_normal ?_ | refine thenA_ret ?_ | refine thenA_exit ?_ | refine thenA_normal ?_)
      refine walkL_cond rfl (fun hc => ?_) (fun hc => ?_)
      · have hc : x ≤ d := by simpa using hc
        rw [if_pos hc] at hn
        repeat (first | refine walkL_seq ?_ | refine walkL_skip ?_ | refine walkL_block ?_ | (refine walkL_region fun K hK => ?_; simp (maxSteps := 4000000) only [go_sem, g1, hlen, intRows_len, hw]; refine hK _ ?_; clear hK K) | refine walkL_nil ?_ | refine walkL_ret ?_ | refine walkL_exit ?_ | refine blockA_here ?_ | refine blockA_other rfl ?_ | refine blockA_ret ?_ | refine blockA_normal ?_ | refine thenA_ret ?_ | refine thenA_exit ?_ | refine thenA_normal ?_)
        refine ⟨rfl, i + 1, ?_, hlt, by omega⟩
        rw [hn, ← intRows_append]
        refine weak_of [] ?_ ?_ rfl rfl <;> simp [lessT, lessM, lessB, AV.less]
        rfl
      · have hc : ¬ x ≤ d := by simpa using hc
        rw [if_neg hc, List.append_nil] at hn
        repeat (first | refine walkL_seq ?_ | refine walkL_skip ?_ | refine walkL_block ?_ | (refine walkL_region fun K hK => ?_; simp (maxSteps := 4000000) only [go_sem, hw]; refine hK _ ?_; clear hK K) | refine walkL_nil ?_ | refine walkL_ret ?_ | refine walkL_exit ?_ | refine blockA_here ?_ | refine blockA_other rfl ?_ | refine blockA_ret ?_ | refine blockA_normal ?_ | refine thenA_ret ?_ | refine thenA_exit ?_ | refine thenA_normal ?_)
        refine ⟨rfl, i + 1, ?_, hlt, by omega⟩
        rw [hn]
        refine weak_of [] ?_ ?_ rfl rfl <;> simp [lessT, lessM, lessB, AV.less]
    · have he : i = l.length := by (have : ¬ i < l.length := by simpa using hb); omega
      subst he
      repeat (first | refine walkL_seq ?_ | refine walkL_skip ?_ | refine walkL_block ?_ | (refine walkL_region fun K hK => ?_; simp (maxSteps := 4000000) only [go_sem]; refine hK _ ?_; clear hK K) | refine walkL_nil ?_ | refine walkL_ret ?_ | refine walkL_exit ?_ | refine blockA_here ?_ | refine blockA_other rfl ?_ | refine blockA_ret ?_ | refine blockA_normal ?_ | refine thenA_ret ?_ | refine thenA_exit ?_ | refine thenA_normal ?_)
      simp (maxSteps := 4000000) only [go_sem, List.take_length]

theorem f79 (l : List Int) (d : Int) (hl : l.length < 2 ^ 30) : FnS Try.prog 79 [.sl (intRows l), .ptr [.i d] 0] 3 1 (intRows (untilL d l)) := by
  refine fnS_walk 22 Try.call79 Try.func79 rfl (by decide) fun J => ?_
  simp (maxSteps := 4000000) only [go_sem, St.start, Try.ntmps79, Try.results79]
  repeat (first | refine walkL_seq ?_ | refine walkL_skip ?_ | refine walkL_block ?_ | (refine walkL_region fun K hK => ?_; simp (maxSteps := 4000000) only [go_sem, intRows_len]; refine hK _ ?_; clear hK K) | refine walkL_nil ?_ | refine walkL_ret ?_ | refine walkL_exit ?_ | refine blockA_here ?_ | refine blockA_other rfl ?_ | refine blockA_ret ?_ | refine blockA_normal ?_ | refine thenA_ret ?_ | refine thenA_exit ?_ | refine thenA_normal ?_)
  refine walkL_loopS (fun (i : Nat) => [(8, .d (.i i)), (3, .own 3)]) (fun i => [(3, some (.arr 3 1 (intRows (untilL d (l.take i)))))]) (fun i => i ≤ l.length) (fun i => l.length - i) 0 ?_ (Nat.zero_le _) ?_
  · simp (maxSteps := 4000000) only [go_sem]
    refine weak_of [3] ?_ ?_ rfl rfl <;> simp [lessT, lessM, lessB, AV.less, untilL, intRows]
  · intro i hi
    simp (maxSteps := 4000000) only [go_sem]
    repeat (first | refine walkL_seq ?_ | refine walkL_skip ?_ | refine walkL_block ?_ | (refine walkL_region fun K hK => ?_; simp (maxSteps := 4000000) only [go_sem, intRows_len]; refine hK _ ?_; clear hK K) | refine walkL_nil ?_ | refine walkL_ret ?_ | refine walkL_exit ?_ | refine blockA_here ?_ | refine blockA_other rfl ?_ | refine blockA_ret ?_ | refine blockA_normal ?_ | refine thenA_ret ?_ | refine thenA_exit ?_ | refine thenA_normal ?_)
    refine walkL_cond rfl (fun hb => ?_) (fun hb => ?_)
    · have hlt : i < l.length := by simpa using hb
      have hw : IntKind.i64.wrap ((i : Int) + 1) = ((i + 1 : Nat) : Int) := by rw [wr_small (by omega)]; simp
      obtain ⟨x, hx⟩ : ∃ x, l[i]? = some x := ⟨_, List.getElem?_eq_getElem hlt⟩
      have g1 := intRows_at hx
      have hn := untilL_succ (d := d) hx
      have hlen : (untilL d (l.take i)).length + 1 ≤ 549755813888 := by
        have := untilL_len d (l.take i)
        simp only [List.length_take] at this
        omega
      repeat (first | refine walkL_seq ?_ | refine walkL_skip ?_ | refine walkL_block ?_ | (refine walkL_region fun K hK => ?_; simp (maxSteps := 4000000) only [go_sem, g1]; refine hK _ ?_; clear hK K) | refine walkL_nil ?_ | refine walkL_ret ?_ | refine walkL_exit ?_ | refine blockA_here ?_ | refine blockA_other rfl ?_ | refine blockA_ret ?_ | refine blockA_normal ?_ | refine thenA_ret ?_ | refine thenA_exit ?_ | refine thenA_normal ?_)
      refine walkL_cond rfl (fun hc => ?_) (fun hc => ?_)
      · have hc : x ≤ d := by simpa using hc
        rw [if_pos hc] at hn
        repeat (first | refine walkL_seq ?_ | refine walkL_skip ?_ | refine walkL_block ?_ | (refine walkL_region fun K hK => ?_; simp (maxSteps := 4000000) only [go_sem, g1, hlen, intRows_len, hw]; refine hK _ ?_; clear hK K) | refine walkL_nil ?_ | refine walkL_ret ?_ | refine walkL_exit ?_ | refine blockA_here ?_ | refine blockA_other rfl ?_ | refine blockA_ret ?_ | refine blockA_normal ?_ | refine thenA_ret ?_ | refine thenA_exit ?_ | refine thenA_normal ?_)
        refine ⟨rfl, i + 1, ?_, hlt, by omega⟩
        rw [hn, ← intRows_append]
        refine weak_of [] ?_ ?_ rfl rfl <;> simp [lessT, lessM, lessB, AV.less]
        rfl
      · have hc : ¬ x ≤ d := by simpa using hc
        rw [if_neg hc, List.append_nil] at hn
        repeat (first | refine walkL_seq ?_ | refine walkL_skip ?_ | refine walkL_block ?_ | (refine walkL_region fun K hK => ?_; simp (maxSteps := 4000000) only [go_sem, hw]; refine hK _ ?_; clear hK K) | refine walkL_nil ?_ | refine walkL_ret ?_ | refine walkL_exit ?_ | refine blockA_here ?_ | refine blockA_other rfl ?_ | refine blockA_ret ?_ | refine blockA_normal ?_ | refine thenA_ret ?_ | refine thenA_exit ?_ | refine thenA_normal ?_)
        refine ⟨rfl, i + 1, ?_, hlt, by omega⟩
        rw [hn]
        refine weak_of [] ?_ ?_ rfl rfl <;> simp [lessT, lessM, lessB, AV.less]
    · have he : i = l.length := by (have : ¬ i < l.length := by simpa using hb); omega
      subst he
      repeat (first | refine walkL_seq ?_ | refine walkL_skip ?_ | refine walkL_block ?_ | (refine walkL_region fun K hK => ?_; simp (maxSteps := 4000000) only [go_sem]; refine hK _ ?_; clear hK K) | refine walkL_nil ?_ | refine walkL_ret ?_ | refine walkL_exit ?_ | refine blockA_here ?_ | refine blockA_other rfl ?_ | refine blockA_ret ?_ | refine blockA_normal ?_ | refine thenA_ret ?_ | refine thenA_exit ?_ | refine thenA_normal ?_)
      simp (maxSteps := 4000000) only [go_sem, List.take_length]
end Go.Ab
namespace Go.Ab
open Go.RowKit Go.Proofs
set_option maxHeartbeats 4000000
set_option maxRecDepth 20000
attribute [local irreducible] WalkL Walk

theorem ordered_iff {s : Span} {lo hi : Int} : orderedB s lo hi = true ↔ lo ≤ s.lo ∧ s.lo ≤ s.hi ∧ s.hi ≤ hi := by simp [orderedB]

structure Path.Good (n : Net) (x : Path) : Prop where
  frm : 0 ≤ x.frm ∧ x.frm < n.places
  to : 0 ≤ x.to ∧ x.to < n.places
  ne : x.frm ≠ x.to
  grade : 1 ≤ x.grade ∧ x.grade ≤ 6
  time : 1 ≤ x.time.lo ∧ x.time.lo ≤ x.time.hi ∧ x.time.hi ≤ 600
  snow : 0 ≤ x.snow.lo ∧ x.snow.lo ≤ x.snow.hi ∧ x.snow.hi ≤ 30
  len : x.opens.length ≤ 6
  opens : ∀ s ∈ x.opens, 0 ≤ s.lo ∧ s.lo ≤ s.hi ∧ s.hi ≤ 2880

/-- A net that is valid. -/
structure Net.Good (n : Net) : Prop where
  places : 1 ≤ n.places ∧ n.places ≤ 12
  paths : n.paths.length ≤ 24
  path : ∀ x ∈ n.paths, x.Good n

theorem wrong_iff {n : Net} {x : Path} : wrongB n x = false ↔ x.Good n := by
  unfold wrongB wrong1
  simp only [Bool.or_eq_false_iff, Bool.not_eq_false', within_iff, ordered_iff, beq_eq_false_iff_ne, decide_eq_false_iff_not, List.any_eq_false, Bool.not_eq_true']
  constructor
  · rintro ⟨⟨h1, h2, h3, h4, h5, h6, h7⟩, h8⟩
    exact ⟨by omega, by omega, h3, h4, h5, h6, by omega, fun s hs => ordered_iff.1 (by simpa using h8 s hs)⟩
  · rintro ⟨h1, h2, h3, h4, h5, h6, h7, h8⟩
    exact ⟨⟨by omega, by omega, h3, h4, h5, h6, by omega⟩, fun s hs => by simpa using ordered_iff.2 (h8 s hs)⟩

theorem good_iff {n : Net} : ¬ badNet n = true ↔ n.Good := by
  have e : ¬ badNet n = true ↔ badNet n = false := by simp
  rw [e]
  unfold badNet
  simp only [Bool.or_eq_false_iff, Bool.not_eq_false', within_iff, decide_eq_false_iff_not, List.any_eq_false]
  constructor
  · rintro ⟨h1, h2, h3⟩
    exact ⟨h1, by omega, fun x hx => wrong_iff.1 (by simpa using h3 x hx)⟩
  · rintro ⟨h1, h2, h3⟩
    exact ⟨h1, by omega, fun x hx => by simpa using wrong_iff.2 (h3 x hx)⟩

theorem Net.Good.ok {n : Net} (h : n.Good) : n.Ok :=
  ⟨by have := h.places; omega, by have := h.paths; omega, fun x hx => (h.path x hx).frm, fun x hx => (h.path x hx).to, fun x hx => by have := (h.path x hx).len; omega⟩

theorem Net.Good.hi {n : Net} (h : n.Good) : ∀ x ∈ n.paths, ∀ s ∈ x.opens, s.hi ≤ 2880 := fun x hx s hs => ((h.path x hx).opens s hs).2.2

structure Party.Good (p : Party) : Prop where
  grade : 1 ≤ p.grade ∧ p.grade ≤ 6
  pace : 50 ≤ p.pace.lo ∧ p.pace.lo ≤ p.pace.hi ∧ p.pace.hi ≤ 300
  load : 0 ≤ p.load ∧ p.load ≤ 40

theorem party_iff {p : Party} : ¬ badParty p = true ↔ p.Good := by
  have e : ¬ badParty p = true ↔ badParty p = false := by simp
  rw [e]
  unfold badParty
  simp only [Bool.or_eq_false_iff, Bool.not_eq_false', within_iff, ordered_iff]
  exact ⟨fun ⟨h1, h2, h3⟩ => ⟨h1, h2, h3⟩, fun ⟨h1, h2, h3⟩ => ⟨h1, h2, h3⟩⟩

structure Opened (n : Net) (p : Party) (places minutes : List Int) : Prop where
  net : n.Good
  party : p.Good
  place : ∀ x ∈ places, 0 ≤ x ∧ x < n.places
  minute : ∀ x ∈ minutes, 0 ≤ x ∧ x ≤ 2880

theorem ask_iff {n : Net} {places minutes : List Int} : ¬ badAsk n places minutes = true ↔ (∀ x ∈ places, 0 ≤ x ∧ x < n.places) ∧ ∀ x ∈ minutes, 0 ≤ x ∧ x ≤ 2880 := by
  have e : ¬ badAsk n places minutes = true ↔ badAsk n places minutes = false := by simp
  rw [e]
  unfold badAsk
  simp only [Bool.or_eq_false_iff, List.any_eq_false]
  constructor
  · rintro ⟨h1, h2⟩
    exact ⟨fun x hx => by have := within_iff.1 (by simpa using h1 x hx); omega, fun x hx => within_iff.1 (by simpa using h2 x hx)⟩
  · rintro ⟨h1, h2⟩
    exact ⟨fun x hx => by simpa using within_iff.2 (by have := h1 x hx; omega), fun x hx => by simpa using within_iff.2 (h2 x hx)⟩

theorem open_iff {n : Net} {p : Party} {places minutes : List Int} : openF n p places minutes = 0 ↔ Opened n p places minutes := by
  unfold openF
  constructor
  · intro h
    split at h
    · cases h
    · rename_i h1
      split at h
      · cases h
      · rename_i h2
        split at h
        · cases h
        · rename_i h3
          exact ⟨good_iff.1 h1, party_iff.1 h2, (ask_iff.1 h3).1, (ask_iff.1 h3).2⟩
  · rintro ⟨h1, h2, h3, h4⟩
    rw [if_neg (good_iff.2 h1), if_neg (party_iff.2 h2), if_neg (ask_iff.2 ⟨h3, h4⟩)]

theorem fixA_len (n : Net) (p : Party) (q : Span → Int) (but : Int) : ∀ (k : Nat) (l : List Int), (fixA n p q but k l).length = l.length
  | 0, _ => rfl
  | k + 1, l => by
    unfold fixA
    split
    · rw [fixA_len n p q but k, passA, foldA_len]
    · rw [passA, foldA_len]
theorem arrivals_len (n : Net) (p : Party) (q : Span → Int) (frm start but : Int) : (arrivalsL n p q frm start but).length = n.places.toNat := by
  rw [arrivalsL, fixA_len]; simp [arrivals0]
theorem fixD_len (n : Net) (p : Party) : ∀ (k : Nat) (l : List Int), (fixD n p k l).length = l.length
  | 0, _ => rfl
  | k + 1, l => by
    unfold fixD
    split
    · rw [fixD_len n p k, passD, foldD_len]
    · rw [passD, foldD_len]
theorem deadlines_len (n : Net) (p : Party) (to b : Int) : (deadlinesL n p to b).length = n.places.toNat := by
  rw [deadlinesL, fixD_len]; simp [deadlines0]

def spanHi (s : Span) : Int := s.hi
def spanLo (s : Span) : Int := s.lo

/-- The sure and the best arrivals, with the error. -/
def arriveL (n : Net) (p : Party) (frm start : Int) : List Int × List Int × Int :=
  if openF n p [frm] [start] = 0 then ((arrivalsL n p spanHi frm start (-1)).map told1, (arrivalsL n p spanLo frm start (-1)).map told1, 0) else ([], [], openF n p [frm] [start])

theorem f21 (n : Net) (p : Party) (frm start : Int) (hs : n.Small) : Fn Try.prog 21 [.agg n.cells, .agg p.cells, .i frm, .i start]
    (.tup [.sl (intRows (arriveL n p frm start).1), .sl (intRows (arriveL n p frm start).2.1), .i (arriveL n p frm start).2.2]) := by
  have h41 := f41 n p [frm] [start] hs (by simp) (by simp)
  refine fn_walk 36 Try.call21 Try.func21 rfl (by decide) fun J => ?_
  simp (maxSteps := 4000000) only [go_sem, St.start, Try.ntmps21, Try.results21, Net.cells, Party.cells]
  repeat (first | refine walkL_seq ?_ | refine walkL_skip ?_ | refine walkL_block ?_ | (refine walkL_region fun K hK => ?_; simp (maxSteps := 4000000) only [go_sem, walkCells]; (repeat (first | (refine ⟨_, .lent (hf := h41) (hd := rfl) (hr := rfl), ?_⟩; simp (maxSteps := 4000000) only [go_sem, walkCells]) | (refine ⟨_, .given (hf := h41) (hd := rfl) (ha := rfl), ?_⟩; simp (maxSteps := 4000000) only [go_sem, walkCells]))); refine hK _ ?_; clear hK K) | refine walkL_nil ?_ | refine walkL_ret ?_ | refine walkL_exit ?_ | refine blockA_here ?_ | refine blockA_other rfl ?_ | refine blockA_ret ?_ | refine blockA_normal ?_ | refine thenA_ret ?_ | refine thenA_exit ?_ | refine thenA_normal ?_)
  refine walkL_cond rfl (fun hc => ?_) (fun hc => ?_)
  · have hc : ¬ openF n p [frm] [start] = 0 := by simpa using hc
    repeat (first | refine walkL_seq ?_ | refine walkL_skip ?_ | refine walkL_block ?_ | (refine walkL_region fun K hK => ?_; simp (maxSteps := 4000000) only [go_sem]; refine hK _ ?_; clear hK K) | refine walkL_nil ?_ | refine walkL_ret ?_ | refine walkL_exit ?_ | refine blockA_here ?_ | refine blockA_other rfl ?_ | refine blockA_ret ?_ | refine blockA_normal ?_ | refine thenA_ret ?_ | refine thenA_exit ?_ | refine thenA_normal ?_)
    simp (maxSteps := 4000000) only [go_sem, arriveL, hc]
    rfl
  · have hc : openF n p [frm] [start] = 0 := by simpa using hc
    have ho := open_iff.1 hc
    have hfr := ho.place frm (by simp)
    have hpl := ho.net.places
    have h42 := f42 n p frm start (-1) 43 spanHi (fun s => f43 s) ho.net.ok hfr
    have h42' := f42 n p frm start (-1) 60 spanLo (fun s => f60 s) ho.net.ok hfr
    have h59 := f59 (arrivalsL n p spanHi frm start (-1)) (by rw [arrivals_len]; omega)
    have h59' := f59 (arrivalsL n p spanLo frm start (-1)) (by rw [arrivals_len]; omega)
    repeat (first | refine walkL_seq ?_ | refine walkL_skip ?_ | refine walkL_block ?_ | (refine walkL_region fun K hK => ?_; simp (maxSteps := 4000000) only [go_sem]; refine hK _ ?_; clear hK K) | refine walkL_nil ?_ | refine walkL_ret ?_ | refine walkL_exit ?_ | refine blockA_here ?_ | refine blockA_other rfl ?_ | refine blockA_ret ?_ | refine blockA_normal ?_ | refine thenA_ret ?_ | refine thenA_exit ?_ | refine thenA_normal ?_)
    refine walkL_drawn (by kernel_rfl) (by kernel_rfl) fun K hK => ?_
    simp (maxSteps := 4000000) only [go_sem]
    refine ⟨_, .fnS (hdst := rfl) (hf := h42) (hd := rfl) (hr := .inr rfl) (hfr := rfl), ?_⟩
    simp (maxSteps := 4000000) only [go_sem]
    refine ⟨_, .inPlace (n := 29) (hf := h59) (hn := rfl) (hb := rfl) (hla := rfl) (ha := argG_all (by repeat (first | exact trivial | refine And.intro ?_ ?_ | exact argG_ren rfl | exact argG_deep rfl rfl))) (hx := by decide), ?_⟩
    simp (maxSteps := 4000000) only [go_sem]
    refine ⟨_, .fnS (hdst := rfl) (hf := h42') (hd := rfl) (hr := .inr rfl) (hfr := rfl), ?_⟩
    simp (maxSteps := 4000000) only [go_sem]
    refine ⟨_, .inPlace (n := 34) (hf := h59') (hn := rfl) (hb := rfl) (hla := rfl) (ha := argG_all (by repeat (first | exact trivial | refine And.intro ?_ ?_ | exact argG_ren rfl | exact argG_deep rfl rfl))) (hx := by decide), ?_⟩
    simp (maxSteps := 4000000) only [go_sem]
    refine ⟨by kernel_rfl, hK _ ?_⟩
    clear hK K
    repeat (first | refine walkL_seq ?_ | refine walkL_skip ?_ | refine walkL_block ?_ | (refine walkL_region fun K hK => ?_; simp (maxSteps := 4000000) only [go_sem]; refine hK _ ?_; clear hK K) | refine walkL_nil ?_ | refine walkL_ret ?_ | refine walkL_exit ?_ | refine blockA_here ?_ | refine blockA_other rfl ?_ | refine blockA_ret ?_ | refine blockA_normal ?_ | refine thenA_ret ?_ | refine thenA_exit ?_ | refine thenA_normal ?_)
    simp (maxSteps := 4000000) only [go_sem, arriveL, hc]
end Go.Ab
namespace Go.Ab
open Go.RowKit Go.Proofs
set_option maxHeartbeats 4000000
set_option maxRecDepth 20000
attribute [local irreducible] WalkL Walk

def refArriveL (n : Net) (p : Party) (frm start : Int) : List Int × List Int × Int :=
  if openF n p [frm] [start] = 0 then ((tableL n p frm start true (-1)).map shown1, (tableL n p frm start false (-1)).map shown1, 0) else ([], [], openF n p [frm] [start])

theorem f30 (n : Net) (p : Party) (frm start : Int) (hs : n.Small) : Fn Try.prog 30 [.agg n.cells, .agg p.cells, .i frm, .i start]
    (.tup [.sl (intRows (refArriveL n p frm start).1), .sl (intRows (refArriveL n p frm start).2.1), .i (refArriveL n p frm start).2.2]) := by
  have h52 := f52 n p [frm] [start] hs (by simp) (by simp)
  refine fn_walk 34 Try.call30 Try.func30 rfl (by decide) fun J => ?_
  simp (maxSteps := 4000000) only [go_sem, St.start, Try.ntmps30, Try.results30, Net.cells, Party.cells]
  repeat (first | refine walkL_seq ?_ | refine walkL_skip ?_ | refine walkL_block ?_ | (refine walkL_region fun K hK => ?_; simp (maxSteps := 4000000) only [go_sem]; (repeat (first | (refine ⟨_, .lent (hf := h52) (hd := rfl) (hr := rfl), ?_⟩; simp (maxSteps := 4000000) only [go_sem]) | (refine ⟨_, .given (hf := h52) (hd := rfl) (ha := rfl), ?_⟩; simp (maxSteps := 4000000) only [go_sem]))); refine hK _ ?_; clear hK K) | refine walkL_nil ?_ | refine walkL_ret ?_ | refine walkL_exit ?_ | refine blockA_here ?_ | refine blockA_other rfl ?_ | refine blockA_ret ?_ | refine blockA_normal ?_ | refine thenA_ret ?_ | refine thenA_exit ?_ | refine thenA_normal ?_)
  refine walkL_cond rfl (fun hc => ?_) (fun hc => ?_)
  · have hc : ¬ openF n p [frm] [start] = 0 := by simpa using hc
    repeat (first | refine walkL_seq ?_ | refine walkL_skip ?_ | refine walkL_block ?_ | (refine walkL_region fun K hK => ?_; simp (maxSteps := 4000000) only [go_sem]; refine hK _ ?_; clear hK K) | refine walkL_nil ?_ | refine walkL_ret ?_ | refine walkL_exit ?_ | refine blockA_here ?_ | refine blockA_other rfl ?_ | refine blockA_ret ?_ | refine blockA_normal ?_ | refine thenA_ret ?_ | refine thenA_exit ?_ | refine thenA_normal ?_)
    simp (maxSteps := 4000000) only [go_sem, refArriveL, hc]
    rfl
  · have hc : openF n p [frm] [start] = 0 := by simpa using hc
    have ho := open_iff.1 hc
    have hfr := ho.place frm (by simp)
    have hpl := ho.net.places
    have h76 := f76 n p frm start true (-1) ho.net.ok hfr
    have h76' := f76 n p frm start false (-1) ho.net.ok hfr
    have h75 := f75 (tableL n p frm start true (-1)) (by rw [table_len]; omega)
    have h75' := f75 (tableL n p frm start false (-1)) (by rw [table_len]; omega)
    repeat (first | refine walkL_seq ?_ | refine walkL_skip ?_ | refine walkL_block ?_ | (refine walkL_region fun K hK => ?_; simp (maxSteps := 4000000) only [go_sem]; refine hK _ ?_; clear hK K) | refine walkL_nil ?_ | refine walkL_ret ?_ | refine walkL_exit ?_ | refine blockA_here ?_ | refine blockA_other rfl ?_ | refine blockA_ret ?_ | refine blockA_normal ?_ | refine thenA_ret ?_ | refine thenA_exit ?_ | refine thenA_normal ?_)
    refine walkL_drawn (by kernel_rfl) (by kernel_rfl) fun K hK => ?_
    simp (maxSteps := 4000000) only [go_sem]
    refine ⟨_, .fn (hf := h76) (hd := rfl) (hr := .inr rfl), ?_⟩
    simp (maxSteps := 4000000) only [go_sem]
    refine ⟨_, .fn (hf := h75) (hd := rfl) (hr := .inr rfl), ?_⟩
    simp (maxSteps := 4000000) only [go_sem]
    refine ⟨_, .fn (hf := h76') (hd := rfl) (hr := .inr rfl), ?_⟩
    simp (maxSteps := 4000000) only [go_sem]
    refine ⟨_, .fn (hf := h75') (hd := rfl) (hr := .inr rfl), ?_⟩
    simp (maxSteps := 4000000) only [go_sem]
    refine ⟨by kernel_rfl, hK _ ?_⟩
    clear hK K
    repeat (first | refine walkL_seq ?_ | refine walkL_skip ?_ | refine walkL_block ?_ | (refine walkL_region fun K hK => ?_; simp (maxSteps := 4000000) only [go_sem]; refine hK _ ?_; clear hK K) | refine walkL_nil ?_ | refine walkL_ret ?_ | refine walkL_exit ?_ | refine blockA_here ?_ | refine blockA_other rfl ?_ | refine blockA_ret ?_ | refine blockA_normal ?_ | refine thenA_ret ?_ | refine thenA_exit ?_ | refine thenA_normal ?_)
    simp (maxSteps := 4000000) only [go_sem, refArriveL, hc]

def latestL (n : Net) (p : Party) (frm to deadline : Int) : Int × Int :=
  if openF n p [frm, to] [deadline] = 0 then (if getI (deadlinesL n p to deadline) frm = -1 then (0, 3) else (getI (deadlinesL n p to deadline) frm, 0)) else (0, openF n p [frm, to] [deadline])

theorem f18 (n : Net) (p : Party) (frm to deadline : Int) (hs : n.Small) : Fn Try.prog 18 [.agg n.cells, .agg p.cells, .i frm, .i to, .i deadline]
    (.tup [.i (latestL n p frm to deadline).1, .i (latestL n p frm to deadline).2]) := by
  have h41 := f41 n p [frm, to] [deadline] hs (by simp) (by simp)
  refine fn_walk 40 Try.call18 Try.func18 rfl (by decide) fun J => ?_
  simp (maxSteps := 4000000) only [go_sem, St.start, Try.ntmps18, Try.results18, Net.cells, Party.cells]
  repeat (first | refine walkL_seq ?_ | refine walkL_skip ?_ | refine walkL_block ?_ | (refine walkL_region fun K hK => ?_; simp (maxSteps := 4000000) only [go_sem, walkCells]; (repeat (first | (refine ⟨_, .lent (hf := h41) (hd := rfl) (hr := rfl), ?_⟩; simp (maxSteps := 4000000) only [go_sem, walkCells]) | (refine ⟨_, .given (hf := h41) (hd := rfl) (ha := rfl), ?_⟩; simp (maxSteps := 4000000) only [go_sem, walkCells]))); refine hK _ ?_; clear hK K) | refine walkL_nil ?_ | refine walkL_ret ?_ | refine walkL_exit ?_ | refine blockA_here ?_ | refine blockA_other rfl ?_ | refine blockA_ret ?_ | refine blockA_normal ?_ | refine thenA_ret ?_ | refine thenA_exit ?_ | refine thenA_normal ?_)
  refine walkL_cond rfl (fun hc => ?_) (fun hc => ?_)
  · have hc : ¬ openF n p [frm, to] [deadline] = 0 := by simpa using hc
    repeat (first | refine walkL_seq ?_ | refine walkL_skip ?_ | refine walkL_block ?_ | (refine walkL_region fun K hK => ?_; simp (maxSteps := 4000000) only [go_sem]; refine hK _ ?_; clear hK K) | refine walkL_nil ?_ | refine walkL_ret ?_ | refine walkL_exit ?_ | refine blockA_here ?_ | refine blockA_other rfl ?_ | refine blockA_ret ?_ | refine blockA_normal ?_ | refine thenA_ret ?_ | refine thenA_exit ?_ | refine thenA_normal ?_)
    simp (maxSteps := 4000000) only [go_sem, latestL, hc]
  · have hop : openF n p [frm, to] [deadline] = 0 := by simpa using hc
    have ho := open_iff.1 hop
    have hfr := ho.place frm (by simp)
    have hto := ho.place to (by simp)
    have hpl := ho.net.places
    have h54 := f54 n p to deadline ho.net.ok ho.net.hi hto
    have hlen := deadlines_len n p to deadline
    have hg : (intRows (deadlinesL n p to deadline))[frm.toNat]? = some [.i (getI (deadlinesL n p to deadline) frm)] := intRows_get hfr.1 (by omega)
    have hlt : frm.toNat < (intRows (deadlinesL n p to deadline)).length := by rw [intRows_len]; omega
    repeat (first | refine walkL_seq ?_ | refine walkL_skip ?_ | refine walkL_block ?_ | (refine walkL_region fun K hK => ?_; simp (maxSteps := 4000000) only [go_sem]; refine hK _ ?_; clear hK K) | refine walkL_nil ?_ | refine walkL_ret ?_ | refine walkL_exit ?_ | refine blockA_here ?_ | refine blockA_other rfl ?_ | refine blockA_ret ?_ | refine blockA_normal ?_ | refine thenA_ret ?_ | refine thenA_exit ?_ | refine thenA_normal ?_)
    refine walkL_region fun K hK => ?_
    simp (maxSteps := 4000000) only [go_sem]
    refine ⟨_, .lentS (hdst := rfl) (hf := h54) (hd := rfl) (hr := rowsFlat_int _) (hfr := rfl), ?_⟩
    simp (maxSteps := 4000000) only [go_sem, hg, hlt, hfr.1]
    refine hK _ ?_
    clear hK K
    repeat (first | refine walkL_seq ?_ | refine walkL_skip ?_ | refine walkL_block ?_ | (refine walkL_region fun K hK => ?_; simp (maxSteps := 4000000) only [go_sem]; refine hK _ ?_; clear hK K) | refine walkL_nil ?_ | refine walkL_ret ?_ | refine walkL_exit ?_ | refine blockA_here ?_ | refine blockA_other rfl ?_ | refine blockA_ret ?_ | refine blockA_normal ?_ | refine thenA_ret ?_ | refine thenA_exit ?_ | refine thenA_normal ?_)
    refine walkL_cond rfl (fun hc => ?_) (fun hc => ?_)
    · have hc2 : getI (deadlinesL n p to deadline) frm = -1 := by simpa using hc
      repeat (first | refine walkL_seq ?_ | refine walkL_skip ?_ | refine walkL_block ?_ | (refine walkL_region fun K hK => ?_; simp (maxSteps := 4000000) only [go_sem]; refine hK _ ?_; clear hK K) | refine walkL_nil ?_ | refine walkL_ret ?_ | refine walkL_exit ?_ | refine blockA_here ?_ | refine blockA_other rfl ?_ | refine blockA_ret ?_ | refine blockA_normal ?_ | refine thenA_ret ?_ | refine thenA_exit ?_ | refine thenA_normal ?_)
      simp (maxSteps := 4000000) only [go_sem, latestL, hop, hc2]
    · have hc2 : ¬ getI (deadlinesL n p to deadline) frm = -1 := by simpa using hc
      repeat (first | refine walkL_seq ?_ | refine walkL_skip ?_ | refine walkL_block ?_ | (refine walkL_region fun K hK => ?_; simp (maxSteps := 4000000) only [go_sem]; refine hK _ ?_; clear hK K) | refine walkL_nil ?_ | refine walkL_ret ?_ | refine walkL_exit ?_ | refine blockA_here ?_ | refine blockA_other rfl ?_ | refine blockA_ret ?_ | refine blockA_normal ?_ | refine thenA_ret ?_ | refine thenA_exit ?_ | refine thenA_normal ?_)
      simp (maxSteps := 4000000) only [go_sem, latestL, hop, hc2]
/-- The greatest number below k of which q is so. -/
def findDown (q : Int → Bool) : Nat → Option Nat
  | 0 => none
  | k + 1 => if q k then some k else findDown q k

def refLatestL (n : Net) (p : Party) (frm to deadline : Int) : Int × Int :=
  if openF n p [frm, to] [deadline] = 0 then (match findDown (fun t => decide (sureF n p frm t to (-1) ≤ deadline)) (deadline + 1).toNat with
    | some t => ((t : Int), 0)
    | none => (0, 3)) else (0, openF n p [frm, to] [deadline])

theorem f19 (n : Net) (p : Party) (frm to deadline : Int) (hs : n.Small) : Fn Try.prog 19 [.agg n.cells, .agg p.cells, .i frm, .i to, .i deadline]
    (.tup [.i (refLatestL n p frm to deadline).1, .i (refLatestL n p frm to deadline).2]) := by
  have h52 := f52 n p [frm, to] [deadline] hs (by simp) (by simp)
  refine fn_walk 39 Try.call19 Try.func19 rfl (by decide) fun J => ?_
  simp (maxSteps := 4000000) only [go_sem, St.start, Try.ntmps19, Try.results19, Net.cells, Party.cells]
  repeat (first | refine walkL_seq ?_ | refine walkL_skip ?_ | refine walkL_block ?_ | (refine walkL_region fun K hK => ?_; simp (maxSteps := 4000000) only [go_sem]; (repeat (first | (refine ⟨_, .lent (hf := h52) (hd := rfl) (hr := rfl), ?_⟩; simp (maxSteps := 4000000) only [go_sem]) | (refine ⟨_, .given (hf := h52) (hd := rfl) (ha := rfl), ?_⟩; simp (maxSteps := 4000000) only [go_sem]))); refine hK _ ?_; clear hK K) | refine walkL_nil ?_ | refine walkL_ret ?_ | refine walkL_exit ?_ | refine blockA_here ?_ | refine blockA_other rfl ?_ | refine blockA_ret ?_ | refine blockA_normal ?_ | refine thenA_ret ?_ | refine thenA_exit ?_ | refine thenA_normal ?_)
  refine walkL_cond rfl (fun hc => ?_) (fun hc => ?_)
  · have hc : ¬ openF n p [frm, to] [deadline] = 0 := by simpa using hc
    repeat (first | refine walkL_seq ?_ | refine walkL_skip ?_ | refine walkL_block ?_ | (refine walkL_region fun K hK => ?_; simp (maxSteps := 4000000) only [go_sem]; refine hK _ ?_; clear hK K) | refine walkL_nil ?_ | refine walkL_ret ?_ | refine walkL_exit ?_ | refine blockA_here ?_ | refine blockA_other rfl ?_ | refine blockA_ret ?_ | refine blockA_normal ?_ | refine thenA_ret ?_ | refine thenA_exit ?_ | refine thenA_normal ?_)
    simp (maxSteps := 4000000) only [go_sem, refLatestL, hc]
  · have hop : openF n p [frm, to] [deadline] = 0 := by simpa using hc
    have ho := open_iff.1 hop
    have hfr := ho.place frm (by simp)
    have hto := ho.place to (by simp)
    have hdl := ho.minute deadline (by simp)
    obtain ⟨q, hq⟩ : ∃ q : Int → Bool, q = fun t => decide (sureF n p frm t to (-1) ≤ deadline) := ⟨_, rfl⟩
    have href : refLatestL n p frm to deadline = match findDown q (deadline + 1).toNat with
      | some t => ((t : Int), 0)
      | none => (0, 3) := by rw [refLatestL, if_pos hop, hq]
    repeat (first | refine walkL_seq ?_ | refine walkL_skip ?_ | refine walkL_block ?_ | (refine walkL_region fun K hK => ?_; simp (maxSteps := 4000000) only [go_sem]; refine hK _ ?_; clear hK K) | refine walkL_nil ?_ | refine walkL_ret ?_ | refine walkL_exit ?_ | refine blockA_here ?_ | refine blockA_other rfl ?_ | refine blockA_ret ?_ | refine blockA_normal ?_ | refine thenA_ret ?_ | refine thenA_exit ?_ | refine thenA_normal ?_)
    refine walkL_loopS (fun (t : Int) => [(13, .d (.i t))]) (fun _ => []) (fun t => -1 ≤ t ∧ t ≤ 2880 ∧ findDown q (deadline + 1).toNat = findDown q (t + 1).toNat) (fun t => (t + 1).toNat) deadline ?_ ⟨by omega, by omega, rfl⟩ ?_
    · simp (maxSteps := 4000000) only [go_sem]
      refine weak_of [] ?_ ?_ rfl rfl <;> simp [lessT, lessM, lessB, AV.less]
    · intro t ⟨ht1, ht2, hfd⟩
      simp (maxSteps := 4000000) only [go_sem]
      repeat (first | refine walkL_seq ?_ | refine walkL_skip ?_ | refine walkL_block ?_ | (refine walkL_region fun K hK => ?_; simp (maxSteps := 4000000) only [go_sem]; refine hK _ ?_; clear hK K) | refine walkL_nil ?_ | refine walkL_ret ?_ | refine walkL_exit ?_ | refine blockA_here ?_ | refine blockA_other rfl ?_ | refine blockA_ret ?_ | refine blockA_normal ?_ | refine thenA_ret ?_ | refine thenA_exit ?_ | refine thenA_normal ?_)
      refine walkL_cond rfl (fun hb => ?_) (fun hb => ?_)
      · have hb : t ≥ 0 := by simpa using hb
        have hw : IntKind.i64.wrap (t - 1) = t - 1 := wr_small (by omega)
        have h55 := f55 n p frm t to (-1) ho.net.ok hfr hto
        rw [show (t + 1).toNat = t.toNat + 1 by omega, findDown, show ((t.toNat : Nat) : Int) = t by omega] at hfd
        repeat (first | refine walkL_seq ?_ | refine walkL_skip ?_ | refine walkL_block ?_ | (refine walkL_region fun K hK => ?_; simp (maxSteps := 4000000) only [go_sem]; (repeat (first | (refine ⟨_, .lent (hf := h55) (hd := rfl) (hr := rfl), ?_⟩; simp (maxSteps := 4000000) only [go_sem]) | (refine ⟨_, .given (hf := h55) (hd := rfl) (ha := rfl), ?_⟩; simp (maxSteps := 4000000) only [go_sem]))); refine hK _ ?_; clear hK K) | refine walkL_nil ?_ | refine walkL_ret ?_ | refine walkL_exit ?_ | refine blockA_here ?_ | refine blockA_other rfl ?_ | refine blockA_ret ?_ | refine blockA_normal ?_ | refine thenA_ret ?_ | refine thenA_exit ?_ | refine thenA_normal ?_)
        refine walkL_cond rfl (fun hc => ?_) (fun hc => ?_)
        · have hqt : q t = true := by rw [hq]; exact hc
          rw [hqt, if_pos rfl] at hfd
          repeat (first | refine walkL_seq ?_ | refine walkL_skip ?_ | refine walkL_block ?_ | (refine walkL_region fun K hK => ?_; simp (maxSteps := 4000000) only [go_sem]; refine hK _ ?_; clear hK K) | refine walkL_nil ?_ | refine walkL_ret ?_ | refine walkL_exit ?_ | refine blockA_here ?_ | refine blockA_other rfl ?_ | refine blockA_ret ?_ | refine blockA_normal ?_ | refine thenA_ret ?_ | refine thenA_exit ?_ | refine thenA_normal ?_)
          simp (maxSteps := 4000000) only [go_sem, href, hfd]
          rw [show ((t.toNat : Nat) : Int) = t by omega]
        · have hqt : q t = false := by rw [hq]; exact hc
          rw [hqt, if_neg (by simp)] at hfd
          repeat (first | refine walkL_seq ?_ | refine walkL_skip ?_ | refine walkL_block ?_ | (refine walkL_region fun K hK => ?_; simp (maxSteps := 4000000) only [go_sem, hw]; refine hK _ ?_; clear hK K) | refine walkL_nil ?_ | refine walkL_ret ?_ | refine walkL_exit ?_ | refine blockA_here ?_ | refine blockA_other rfl ?_ | refine blockA_ret ?_ | refine blockA_normal ?_ | refine thenA_ret ?_ | refine thenA_exit ?_ | refine thenA_normal ?_)
          refine ⟨rfl, t - 1, ?_, ⟨by omega, by omega, by rw [hfd, show (t - 1 + 1).toNat = t.toNat by omega]⟩, by omega⟩
          refine weak_of [] ?_ ?_ rfl rfl <;> simp [lessT, lessM, lessB, AV.less]
      · have he : t = -1 := by (have : ¬ t ≥ 0 := by simpa using hb); omega
        subst he
        repeat (first | refine walkL_seq ?_ | refine walkL_skip ?_ | refine walkL_block ?_ | (refine walkL_region fun K hK => ?_; simp (maxSteps := 4000000) only [go_sem]; refine hK _ ?_; clear hK K) | refine walkL_nil ?_ | refine walkL_ret ?_ | refine walkL_exit ?_ | refine blockA_here ?_ | refine blockA_other rfl ?_ | refine blockA_ret ?_ | refine blockA_normal ?_ | refine thenA_ret ?_ | refine thenA_exit ?_ | refine thenA_normal ?_)
        have hfd : findDown q (deadline + 1).toNat = none := hfd
        simp (maxSteps := 4000000) only [go_sem, href, hfd]

theorem f77 (n : Net) (p : Party) (but frm start to deadline : Int) (hn : n.Ok) (hfr : 0 ≤ frm ∧ frm < n.places) (hto : 0 ≤ to ∧ to < n.places) :
    Fn Try.prog 77 [.i but, .ptr (walkCells n p) 0, .ptr [.i frm] 0, .ptr [.i start] 0, .ptr [.i to] 0, .ptr [.i deadline] 0] (.bool (decide (getI (arrivalsL n p spanHi frm start but) to > deadline))) := by
  have h42 := f42 n p frm start but 43 spanHi (fun s => f43 s) hn hfr
  have hlen := arrivals_len n p spanHi frm start but
  have hg : (intRows (arrivalsL n p spanHi frm start but))[to.toNat]? = some [.i (getI (arrivalsL n p spanHi frm start but) to)] := intRows_get hto.1 (by omega)
  have hlt : to.toNat < (intRows (arrivalsL n p spanHi frm start but)).length := by rw [intRows_len]; omega
  refine fn_walk 18 Try.call77 Try.func77 rfl (by decide) fun J => ?_
  simp (maxSteps := 4000000) only [go_sem, St.start, Try.ntmps77, Try.results77, walkCells]
  repeat (first | refine walkL_seq ?_ | refine walkL_skip ?_ | refine walkL_block ?_ | (refine walkL_region fun K hK => ?_; simp (maxSteps := 4000000) only [go_sem]; refine hK _ ?_; clear hK K) | refine walkL_nil ?_ | refine walkL_ret ?_ | refine walkL_exit ?_ | refine blockA_here ?_ | refine blockA_other rfl ?_ | refine blockA_ret ?_ | refine blockA_normal ?_ | refine thenA_ret ?_ | refine thenA_exit ?_ | refine thenA_normal ?_)
  refine walkL_drawn (by kernel_rfl) (by kernel_rfl) fun K hK => ?_
  simp (maxSteps := 4000000) only [go_sem]
  refine ⟨_, .fnS (hdst := rfl) (hf := h42) (hd := rfl) (hr := .inr rfl) (hfr := rfl), ?_⟩
  simp (maxSteps := 4000000) only [go_sem, hg, hlt, hto.1]
  refine ⟨by kernel_rfl, hK _ ?_⟩
  clear hK K
  repeat (first | refine walkL_seq ?_ | refine walkL_skip ?_ | refine walkL_block ?_ | (refine walkL_region fun K hK => ?_; simp (maxSteps := 4000000) only [go_sem]; refine hK _ ?_; clear hK K) | refine walkL_nil ?_ | refine walkL_ret ?_ | refine walkL_exit ?_ | refine blockA_here ?_ | refine blockA_other rfl ?_ | refine blockA_ret ?_ | refine blockA_normal ?_ | refine thenA_ret ?_ | refine thenA_exit ?_ | refine thenA_normal ?_)
  simp (maxSteps := 4000000) only [go_sem]

end Go.Ab
namespace Go.Ab
open Go.RowKit Go.Proofs
set_option maxHeartbeats 4000000
set_option maxRecDepth 20000
attribute [local irreducible] WalkL Walk

def walkF (n : Net) (p : Party) (i : Int) : Span × Int :=
  if checkPartyF n p = 0 then (if withinB i 0 (n.paths.length - 1) then (match n.paths[i.toNat]? with
    | some x => if x.grade ≤ p.grade then (spanW x p, 0) else (⟨0, 0⟩, 3)
    | none => (⟨0, 0⟩, 1)) else (⟨0, 0⟩, 1)) else (⟨0, 0⟩, checkPartyF n p)

theorem f28 (n : Net) (p : Party) (i : Int) (hs : n.Small) : Fn Try.prog 28 [.agg n.cells, .agg p.cells, .i i] (.tup [.agg (walkF n p i).1.row, .i (walkF n p i).2]) := by
  have h73 := f73 n p hs
  refine fn_walk 39 Try.call28 Try.func28 rfl (by decide) fun J => ?_
  simp (maxSteps := 4000000) only [go_sem, St.start, Try.ntmps28, Try.results28, Net.cells, Party.cells]
  repeat (first | refine walkL_seq ?_ | refine walkL_skip ?_ | refine walkL_block ?_ | (refine walkL_region fun K hK => ?_; simp (maxSteps := 4000000) only [go_sem, walkCells]; (repeat (first | (refine ⟨_, .lent (hf := h73) (hd := rfl) (hr := rfl), ?_⟩; simp (maxSteps := 4000000) only [go_sem, walkCells]) | (refine ⟨_, .given (hf := h73) (hd := rfl) (ha := rfl), ?_⟩; simp (maxSteps := 4000000) only [go_sem, walkCells]))); refine hK _ ?_; clear hK K) | refine walkL_nil ?_ | refine walkL_ret ?_ | refine walkL_exit ?_ | refine blockA_here ?_ | refine blockA_other rfl ?_ | refine blockA_ret ?_ | refine blockA_normal ?_ | refine thenA_ret ?_ | refine thenA_exit ?_ | refine thenA_normal ?_)
  refine walkL_cond rfl (fun hc => ?_) (fun hc => ?_)
  · have hc : ¬ checkPartyF n p = 0 := by simpa using hc
    repeat (first | refine walkL_seq ?_ | refine walkL_skip ?_ | refine walkL_block ?_ | (refine walkL_region fun K hK => ?_; simp (maxSteps := 4000000) only [go_sem]; refine hK _ ?_; clear hK K) | refine walkL_nil ?_ | refine walkL_ret ?_ | refine walkL_exit ?_ | refine blockA_here ?_ | refine blockA_other rfl ?_ | refine blockA_ret ?_ | refine blockA_normal ?_ | refine thenA_ret ?_ | refine thenA_exit ?_ | refine thenA_normal ?_)
    simp (maxSteps := 4000000) only [go_sem, walkF, hc]
    rfl
  · have hop : checkPartyF n p = 0 := by simpa using hc
    have hb := hs.paths
    have hw : IntKind.i64.wrap ((n.paths.length : Int) - 1) = n.paths.length - 1 := wr_small (by omega)
    repeat (first | refine walkL_seq ?_ | refine walkL_skip ?_ | refine walkL_block ?_ | (refine walkL_region fun K hK => ?_; simp (maxSteps := 4000000) only [go_sem, hw]; (repeat (first | (refine ⟨_, .lent (hf := f65 i 0 (n.paths.length - 1)) (hd := rfl) (hr := rfl), ?_⟩; simp (maxSteps := 4000000) only [go_sem, hw]) | (refine ⟨_, .given (hf := f65 i 0 (n.paths.length - 1)) (hd := rfl) (ha := rfl), ?_⟩; simp (maxSteps := 4000000) only [go_sem, hw]))); refine hK _ ?_; clear hK K) | refine walkL_nil ?_ | refine walkL_ret ?_ | refine walkL_exit ?_ | refine blockA_here ?_ | refine blockA_other rfl ?_ | refine blockA_ret ?_ | refine blockA_normal ?_ | refine thenA_ret ?_ | refine thenA_exit ?_ | refine thenA_normal ?_)
    refine walkL_cond rfl (fun hc => ?_) (fun hc => ?_)
    · have hc : withinB i 0 (n.paths.length - 1) = false := by simpa using hc
      repeat (first | refine walkL_seq ?_ | refine walkL_skip ?_ | refine walkL_block ?_ | (refine walkL_region fun K hK => ?_; simp (maxSteps := 4000000) only [go_sem]; refine hK _ ?_; clear hK K) | refine walkL_nil ?_ | refine walkL_ret ?_ | refine walkL_exit ?_ | refine blockA_here ?_ | refine blockA_other rfl ?_ | refine blockA_ret ?_ | refine blockA_normal ?_ | refine thenA_ret ?_ | refine thenA_exit ?_ | refine thenA_normal ?_)
      simp (maxSteps := 4000000) only [go_sem, walkF, hop, hc]
      rfl
    · have hwi : withinB i 0 (n.paths.length - 1) = true := by simpa using hc
      have hii := within_iff.1 hwi
      obtain ⟨j, rfl⟩ : ∃ j : Nat, i = j := ⟨i.toNat, by omega⟩
      obtain ⟨x, hx⟩ : ∃ x, n.paths[j]? = some x := ⟨_, List.getElem?_eq_getElem (show j < n.paths.length by omega)⟩
      have h74 := f74 n p j x hx
      have h51 := f51 n p j x hx
      repeat (first | refine walkL_seq ?_ | refine walkL_skip ?_ | refine walkL_block ?_ | (refine walkL_region fun K hK => ?_; simp (maxSteps := 4000000) only [go_sem]; (repeat (first | (refine ⟨_, .lent (hf := h74) (hd := rfl) (hr := rfl), ?_⟩; simp (maxSteps := 4000000) only [go_sem]) | (refine ⟨_, .given (hf := h74) (hd := rfl) (ha := rfl), ?_⟩; simp (maxSteps := 4000000) only [go_sem]))); refine hK _ ?_; clear hK K) | refine walkL_nil ?_ | refine walkL_ret ?_ | refine walkL_exit ?_ | refine blockA_here ?_ | refine blockA_other rfl ?_ | refine blockA_ret ?_ | refine blockA_normal ?_ | refine thenA_ret ?_ | refine thenA_exit ?_ | refine thenA_normal ?_)
      refine walkL_cond rfl (fun hc => ?_) (fun hc => ?_)
      · have hg : ¬ x.grade ≤ p.grade := by simpa using hc
        repeat (first | refine walkL_seq ?_ | refine walkL_skip ?_ | refine walkL_block ?_ | (refine walkL_region fun K hK => ?_; simp (maxSteps := 4000000) only [go_sem]; refine hK _ ?_; clear hK K) | refine walkL_nil ?_ | refine walkL_ret ?_ | refine walkL_exit ?_ | refine blockA_here ?_ | refine blockA_other rfl ?_ | refine blockA_ret ?_ | refine blockA_normal ?_ | refine thenA_ret ?_ | refine thenA_exit ?_ | refine thenA_normal ?_)
        simp (maxSteps := 4000000) only [go_sem, walkF, hop, hwi, Int.toNat_natCast, hx, hg]
        rfl
      · have hg : x.grade ≤ p.grade := by simpa using hc
        repeat (first | refine walkL_seq ?_ | refine walkL_skip ?_ | refine walkL_block ?_ | (refine walkL_region fun K hK => ?_; simp (maxSteps := 4000000) only [go_sem, Span.row]; (repeat (first | (refine ⟨_, .lent (hf := h51) (hd := rfl) (hr := rfl), ?_⟩; simp (maxSteps := 4000000) only [go_sem, Span.row]) | (refine ⟨_, .given (hf := h51) (hd := rfl) (ha := rfl), ?_⟩; simp (maxSteps := 4000000) only [go_sem, Span.row]))); refine hK _ ?_; clear hK K) | refine walkL_nil ?_ | refine walkL_ret ?_ | refine walkL_exit ?_ | refine blockA_here ?_ | refine blockA_other rfl ?_ | refine blockA_ret ?_ | refine blockA_normal ?_ | refine thenA_ret ?_ | refine thenA_exit ?_ | refine thenA_normal ?_)
        simp (maxSteps := 4000000) only [go_sem, walkF, hop, hwi, Int.toNat_natCast, hx, hg, Span.row]

theorem f29 (n : Net) (p : Party) (i : Int) (hs : n.Small) : Fn Try.prog 29 [.agg n.cells, .agg p.cells, .i i] (.tup [.agg (walkF n p i).1.row, .i (walkF n p i).2]) := by
  have h56 := f56 n p hs
  have hb := hs.paths
  have h33 := f33 n i (by omega)
  refine fn_walk 31 Try.call29 Try.func29 rfl (by decide) fun J => ?_
  simp (maxSteps := 4000000) only [go_sem, St.start, Try.ntmps29, Try.results29, Net.cells, Party.cells]
  repeat (first | refine walkL_seq ?_ | refine walkL_skip ?_ | refine walkL_block ?_ | (refine walkL_region fun K hK => ?_; simp (maxSteps := 4000000) only [go_sem]; (repeat (first | (refine ⟨_, .lent (hf := h56) (hd := rfl) (hr := rfl), ?_⟩; simp (maxSteps := 4000000) only [go_sem]) | (refine ⟨_, .given (hf := h56) (hd := rfl) (ha := rfl), ?_⟩; simp (maxSteps := 4000000) only [go_sem]))); refine hK _ ?_; clear hK K) | refine walkL_nil ?_ | refine walkL_ret ?_ | refine walkL_exit ?_ | refine blockA_here ?_ | refine blockA_other rfl ?_ | refine blockA_ret ?_ | refine blockA_normal ?_ | refine thenA_ret ?_ | refine thenA_exit ?_ | refine thenA_normal ?_)
  refine walkL_cond rfl (fun hc => ?_) (fun hc => ?_)
  · have hc : ¬ checkPartyF n p = 0 := by simpa using hc
    repeat (first | refine walkL_seq ?_ | refine walkL_skip ?_ | refine walkL_block ?_ | (refine walkL_region fun K hK => ?_; simp (maxSteps := 4000000) only [go_sem]; refine hK _ ?_; clear hK K) | refine walkL_nil ?_ | refine walkL_ret ?_ | refine walkL_exit ?_ | refine blockA_here ?_ | refine blockA_other rfl ?_ | refine blockA_ret ?_ | refine blockA_normal ?_ | refine thenA_ret ?_ | refine thenA_exit ?_ | refine thenA_normal ?_)
    simp (maxSteps := 4000000) only [go_sem, walkF, hc]
    rfl
  · have hop : checkPartyF n p = 0 := by simpa using hc
    repeat (first | refine walkL_seq ?_ | refine walkL_skip ?_ | refine walkL_block ?_ | (refine walkL_region fun K hK => ?_; simp (maxSteps := 4000000) only [go_sem]; (repeat (first | (refine ⟨_, .lent (hf := h33) (hd := rfl) (hr := rfl), ?_⟩; simp (maxSteps := 4000000) only [go_sem]) | (refine ⟨_, .given (hf := h33) (hd := rfl) (ha := rfl), ?_⟩; simp (maxSteps := 4000000) only [go_sem]))); refine hK _ ?_; clear hK K) | refine walkL_nil ?_ | refine walkL_ret ?_ | refine walkL_exit ?_ | refine blockA_here ?_ | refine blockA_other rfl ?_ | refine blockA_ret ?_ | refine blockA_normal ?_ | refine thenA_ret ?_ | refine thenA_exit ?_ | refine thenA_normal ?_)
    refine walkL_cond rfl (fun hc => ?_) (fun hc => ?_)
    · have hc : withinB i 0 (n.paths.length - 1) = false := by simpa using hc
      repeat (first | refine walkL_seq ?_ | refine walkL_skip ?_ | refine walkL_block ?_ | (refine walkL_region fun K hK => ?_; simp (maxSteps := 4000000) only [go_sem]; refine hK _ ?_; clear hK K) | refine walkL_nil ?_ | refine walkL_ret ?_ | refine walkL_exit ?_ | refine blockA_here ?_ | refine blockA_other rfl ?_ | refine blockA_ret ?_ | refine blockA_normal ?_ | refine thenA_ret ?_ | refine thenA_exit ?_ | refine thenA_normal ?_)
      simp (maxSteps := 4000000) only [go_sem, walkF, hop, hc]
      rfl
    · have hwi : withinB i 0 (n.paths.length - 1) = true := by simpa using hc
      have hii := within_iff.1 hwi
      obtain ⟨j, rfl⟩ : ∃ j : Nat, i = j := ⟨i.toNat, by omega⟩
      obtain ⟨x, hx⟩ : ∃ x, n.paths[j]? = some x := ⟨_, List.getElem?_eq_getElem (show j < n.paths.length by omega)⟩
      have h61 := f61 n p j x hx
      have h24 := f24 n p j x hx
      repeat (first | refine walkL_seq ?_ | refine walkL_skip ?_ | refine walkL_block ?_ | (refine walkL_region fun K hK => ?_; simp (maxSteps := 4000000) only [go_sem]; (repeat (first | (refine ⟨_, .lent (hf := h61) (hd := rfl) (hr := rfl), ?_⟩; simp (maxSteps := 4000000) only [go_sem]) | (refine ⟨_, .given (hf := h61) (hd := rfl) (ha := rfl), ?_⟩; simp (maxSteps := 4000000) only [go_sem]))); refine hK _ ?_; clear hK K) | refine walkL_nil ?_ | refine walkL_ret ?_ | refine walkL_exit ?_ | refine blockA_here ?_ | refine blockA_other rfl ?_ | refine blockA_ret ?_ | refine blockA_normal ?_ | refine thenA_ret ?_ | refine thenA_exit ?_ | refine thenA_normal ?_)
      refine walkL_cond rfl (fun hc => ?_) (fun hc => ?_)
      · have hg : ¬ x.grade ≤ p.grade := by simpa using hc
        repeat (first | refine walkL_seq ?_ | refine walkL_skip ?_ | refine walkL_block ?_ | (refine walkL_region fun K hK => ?_; simp (maxSteps := 4000000) only [go_sem]; refine hK _ ?_; clear hK K) | refine walkL_nil ?_ | refine walkL_ret ?_ | refine walkL_exit ?_ | refine blockA_here ?_ | refine blockA_other rfl ?_ | refine blockA_ret ?_ | refine blockA_normal ?_ | refine thenA_ret ?_ | refine thenA_exit ?_ | refine thenA_normal ?_)
        simp (maxSteps := 4000000) only [go_sem, walkF, hop, hwi, Int.toNat_natCast, hx, hg]
        rfl
      · have hg : x.grade ≤ p.grade := by simpa using hc
        repeat (first | refine walkL_seq ?_ | refine walkL_skip ?_ | refine walkL_block ?_ | (refine walkL_region fun K hK => ?_; simp (maxSteps := 4000000) only [go_sem, Span.row]; (repeat (first | (refine ⟨_, .lent (hf := h24) (hd := rfl) (hr := rfl), ?_⟩; simp (maxSteps := 4000000) only [go_sem, Span.row]) | (refine ⟨_, .given (hf := h24) (hd := rfl) (ha := rfl), ?_⟩; simp (maxSteps := 4000000) only [go_sem, Span.row]))); refine hK _ ?_; clear hK K) | refine walkL_nil ?_ | refine walkL_ret ?_ | refine walkL_exit ?_ | refine blockA_here ?_ | refine blockA_other rfl ?_ | refine blockA_ret ?_ | refine blockA_normal ?_ | refine thenA_ret ?_ | refine thenA_exit ?_ | refine thenA_normal ?_)
        simp (maxSteps := 4000000) only [go_sem, walkF, hop, hwi, Int.toNat_natCast, hx, hg, Span.row]

/-- The numbers below k of which q is so. -/
def selL (q : Nat → Bool) (k : Nat) : List Int := ((List.range k).filter q).map fun (i : Nat) => (i : Int)

theorem selL_succ (q : Nat → Bool) (k : Nat) : selL q (k + 1) = selL q k ++ if q k then [(k : Int)] else [] := by
  simp only [selL, List.range_succ, List.filter_append, List.map_append]
  congr 1
  by_cases h : q k <;> simp [h]

theorem selL_len (q : Nat → Bool) (k : Nat) : (selL q k).length ≤ k := by
  unfold selL
  rw [List.length_map]
  exact Nat.le_trans (List.length_filter_le _ _) (by simp)

def vitalL (n : Net) (p : Party) (frm start to deadline : Int) : List Int × Int :=
  if openF n p [frm, to] [start, deadline] = 0 then (if getI (arrivalsL n p spanHi frm start (-1)) to > deadline then ([], 3) else (selL (fun (i : Nat) => decide (getI (arrivalsL n p spanHi frm start (i : Int)) to > deadline)) n.paths.length, 0))
  else ([], openF n p [frm, to] [start, deadline])

theorem f31 (n : Net) (p : Party) (frm start to deadline : Int) (hs : n.Small) : Fn Try.prog 31 [.agg n.cells, .agg p.cells, .i frm, .i start, .i to, .i deadline]
    (.tup [.sl (intRows (vitalL n p frm start to deadline).1), .i (vitalL n p frm start to deadline).2]) := by
  have h41 := f41 n p [frm, to] [start, deadline] hs (by simp) (by simp)
  refine fn_walk 54 Try.call31 Try.func31 rfl (by decide) fun J => ?_
  simp (maxSteps := 4000000) only [go_sem, St.start, Try.ntmps31, Try.results31, Net.cells, Party.cells]
  repeat (first | refine walkL_seq ?_ | refine walkL_skip ?_ | refine walkL_block ?_ | (refine walkL_region fun K hK => ?_; simp (maxSteps := 4000000) only [go_sem, walkCells]; (repeat (first | (refine ⟨_, .lent (hf := h41) (hd := rfl) (hr := rfl), ?_⟩; simp (maxSteps := 4000000) only [go_sem, walkCells]) | (refine ⟨_, .given (hf := h41) (hd := rfl) (ha := rfl), ?_⟩; simp (maxSteps := 4000000) only [go_sem, walkCells]))); refine hK _ ?_; clear hK K) | refine walkL_nil ?_ | refine walkL_ret ?_ | refine walkL_exit ?_ | refine blockA_here ?_ | refine blockA_other rfl ?_ | refine blockA_ret ?_ | refine blockA_normal ?_ | refine thenA_ret ?_ | refine thenA_exit ?_ | refine thenA_normal ?_)
  refine walkL_cond rfl (fun hc => ?_) (fun hc => ?_)
  · have hc : ¬ openF n p [frm, to] [start, deadline] = 0 := by simpa using hc
    repeat (first | refine walkL_seq ?_ | refine walkL_skip ?_ | refine walkL_block ?_ | (refine walkL_region fun K hK => ?_; simp (maxSteps := 4000000) only [go_sem]; refine hK _ ?_; clear hK K) | refine walkL_nil ?_ | refine walkL_ret ?_ | refine walkL_exit ?_ | refine blockA_here ?_ | refine blockA_other rfl ?_ | refine blockA_ret ?_ | refine blockA_normal ?_ | refine thenA_ret ?_ | refine thenA_exit ?_ | refine thenA_normal ?_)
    simp (maxSteps := 4000000) only [go_sem, vitalL, hc]
    rfl
  · have hop : openF n p [frm, to] [start, deadline] = 0 := by simpa using hc
    have ho := open_iff.1 hop
    have hfr := ho.place frm (by simp)
    have hto := ho.place to (by simp)
    have hpn := ho.net.paths
    have h77 := fun but => f77 n p but frm start to deadline ho.net.ok hfr hto
    repeat (first | refine walkL_seq ?_ | refine walkL_skip ?_ | refine walkL_block ?_ | (refine walkL_region fun K hK => ?_; simp (maxSteps := 4000000) only [go_sem]; (repeat (first | (refine ⟨_, .lent (hf := h77 (-1)) (hd := rfl) (hr := rfl), ?_⟩; simp (maxSteps := 4000000) only [go_sem]) | (refine ⟨_, .given (hf := h77 (-1)) (hd := rfl) (ha := rfl), ?_⟩; simp (maxSteps := 4000000) only [go_sem]))); refine hK _ ?_; clear hK K) | refine walkL_nil ?_ | refine walkL_ret ?_ | refine walkL_exit ?_ | refine blockA_here ?_ | refine blockA_other rfl ?_ | refine blockA_ret ?_ | refine blockA_normal ?_ | refine thenA_ret ?_ | refine thenA_exit ?_ | refine thenA_normal ?_)
    refine walkL_cond rfl (fun hc => ?_) (fun hc => ?_)
    · have hc : getI (arrivalsL n p spanHi frm start (-1)) to > deadline := by simpa using hc
      repeat (first | refine walkL_seq ?_ | refine walkL_skip ?_ | refine walkL_block ?_ | (refine walkL_region fun K hK => ?_; simp (maxSteps := 4000000) only [go_sem]; refine hK _ ?_; clear hK K) | refine walkL_nil ?_ | refine walkL_ret ?_ | refine walkL_exit ?_ | refine blockA_here ?_ | refine blockA_other rfl ?_ | refine blockA_ret ?_ | refine blockA_normal ?_ | refine thenA_ret ?_ | refine thenA_exit ?_ | refine thenA_normal ?_)
      simp (maxSteps := 4000000) only [go_sem, vitalL, hop, hc]
      rfl
    · have hl0 : ¬ getI (arrivalsL n p spanHi frm start (-1)) to > deadline := by simpa using hc
      obtain ⟨q, hq⟩ : ∃ q : Nat → Bool, q = fun (i : Nat) => decide (getI (arrivalsL n p spanHi frm start (i : Int)) to > deadline) := ⟨_, rfl⟩
      repeat (first | refine walkL_seq ?_ | refine walkL_skip ?_ | refine walkL_block ?_ | (refine walkL_region fun K hK => ?_; simp (maxSteps := 4000000) only [go_sem]; refine hK _ ?_; clear hK K) | refine walkL_nil ?_ | refine walkL_ret ?_ | refine walkL_exit ?_ | refine blockA_here ?_ | refine blockA_other rfl ?_ | refine blockA_ret ?_ | refine blockA_normal ?_ | refine thenA_ret ?_ | refine thenA_exit ?_ | refine thenA_normal ?_)
      refine walkL_loopS (fun (i : Nat) => [(42, .d (.i i)), (17, .own 17)]) (fun i => [(17, some (.arr 3 1 (intRows (selL q i))))]) (fun i => i ≤ n.paths.length) (fun i => n.paths.length - i) 0 ?_ (Nat.zero_le _) ?_
      · simp (maxSteps := 4000000) only [go_sem]
        refine weak_of [17] ?_ ?_ rfl rfl <;> simp [lessT, lessM, lessB, AV.less, selL, intRows]
      · intro i hi
        simp (maxSteps := 4000000) only [go_sem]
        repeat (first | refine walkL_seq ?_ | refine walkL_skip ?_ | refine walkL_block ?_ | (refine walkL_region fun K hK => ?_; simp (maxSteps := 4000000) only [go_sem]; refine hK _ ?_; clear hK K) | refine walkL_nil ?_ | refine walkL_ret ?_ | refine walkL_exit ?_ | refine blockA_here ?_ | refine blockA_other rfl ?_ | refine blockA_ret ?_ | refine blockA_normal ?_ | refine thenA_ret ?_ | refine thenA_exit ?_ | refine thenA_normal ?_)
        refine walkL_cond rfl (fun hb => ?_) (fun hb => ?_)
        · have hlt : i < n.paths.length := by simpa using hb
          have hw : IntKind.i64.wrap ((i : Int) + 1) = ((i + 1 : Nat) : Int) := by rw [wr_small (by omega)]; simp
          have hn := selL_succ q i
          have hlen : (selL q i).length + 1 ≤ 549755813888 := by have := selL_len q i; omega
          repeat (first | refine walkL_seq ?_ | refine walkL_skip ?_ | refine walkL_block ?_ | (refine walkL_region fun K hK => ?_; simp (maxSteps := 4000000) only [go_sem]; (repeat (first | (refine ⟨_, .lent (hf := h77 i) (hd := rfl) (hr := rfl), ?_⟩; simp (maxSteps := 4000000) only [go_sem]) | (refine ⟨_, .given (hf := h77 i) (hd := rfl) (ha := rfl), ?_⟩; simp (maxSteps := 4000000) only [go_sem]))); refine hK _ ?_; clear hK K) | refine walkL_nil ?_ | refine walkL_ret ?_ | refine walkL_exit ?_ | refine blockA_here ?_ | refine blockA_other rfl ?_ | refine blockA_ret ?_ | refine blockA_normal ?_ | refine thenA_ret ?_ | refine thenA_exit ?_ | refine thenA_normal ?_)
          refine walkL_cond rfl (fun hc => ?_) (fun hc => ?_)
          · have hqi : q i = true := by rw [hq]; exact hc
            rw [hqi, if_pos rfl] at hn
            repeat (first | refine walkL_seq ?_ | refine walkL_skip ?_ | refine walkL_block ?_ | (refine walkL_region fun K hK => ?_; simp (maxSteps := 4000000) only [go_sem, hlen, intRows_len, hw]; refine hK _ ?_; clear hK K) | refine walkL_nil ?_ | refine walkL_ret ?_ | refine walkL_exit ?_ | refine blockA_here ?_ | refine blockA_other rfl ?_ | refine blockA_ret ?_ | refine blockA_normal ?_ | refine thenA_ret ?_ | refine thenA_exit ?_ | refine thenA_normal ?_)
            refine ⟨rfl, i + 1, ?_, hlt, by omega⟩
            rw [hn, ← intRows_append]
            refine weak_of [] ?_ ?_ rfl rfl <;> simp [lessT, lessM, lessB, AV.less]
            rfl
          · have hqi : q i = false := by rw [hq]; exact hc
            rw [hqi, if_neg (by simp), List.append_nil] at hn
            repeat (first | refine walkL_seq ?_ | refine walkL_skip ?_ | refine walkL_block ?_ | (refine walkL_region fun K hK => ?_; simp (maxSteps := 4000000) only [go_sem, hw]; refine hK _ ?_; clear hK K) | refine walkL_nil ?_ | refine walkL_ret ?_ | refine walkL_exit ?_ | refine blockA_here ?_ | refine blockA_other rfl ?_ | refine blockA_ret ?_ | refine blockA_normal ?_ | refine thenA_ret ?_ | refine thenA_exit ?_ | refine thenA_normal ?_)
            refine ⟨rfl, i + 1, ?_, hlt, by omega⟩
            rw [hn]
            refine weak_of [] ?_ ?_ rfl rfl <;> simp [lessT, lessM, lessB, AV.less]
        · have he : i = n.paths.length := by (have : ¬ i < n.paths.length := by simpa using hb); omega
          subst he
          repeat (first | refine walkL_seq ?_ | refine walkL_skip ?_ | refine walkL_block ?_ | (refine walkL_region fun K hK => ?_; simp (maxSteps := 4000000) only [go_sem]; refine hK _ ?_; clear hK K) | refine walkL_nil ?_ | refine walkL_ret ?_ | refine walkL_exit ?_ | refine blockA_here ?_ | refine blockA_other rfl ?_ | refine blockA_ret ?_ | refine blockA_normal ?_ | refine thenA_ret ?_ | refine thenA_exit ?_ | refine thenA_normal ?_)
          simp (maxSteps := 4000000) only [go_sem, vitalL, hop, hl0, hq]

def refVitalL (n : Net) (p : Party) (frm start to deadline : Int) : List Int × Int :=
  if openF n p [frm, to] [start, deadline] = 0 then (if sureF n p frm start to (-1) > deadline then ([], 3) else (selL (fun (i : Nat) => decide (sureF n p frm start to (i : Int) > deadline)) n.paths.length, 0))
  else ([], openF n p [frm, to] [start, deadline])

theorem f36 (n : Net) (p : Party) (frm start to deadline : Int) (hs : n.Small) : Fn Try.prog 36 [.agg n.cells, .agg p.cells, .i frm, .i start, .i to, .i deadline]
    (.tup [.sl (intRows (refVitalL n p frm start to deadline).1), .i (refVitalL n p frm start to deadline).2]) := by
  have h52 := f52 n p [frm, to] [start, deadline] hs (by simp) (by simp)
  refine fn_walk 58 Try.call36 Try.func36 rfl (by decide) fun J => ?_
  simp (maxSteps := 4000000) only [go_sem, St.start, Try.ntmps36, Try.results36, Net.cells, Party.cells]
  repeat (first | refine walkL_seq ?_ | refine walkL_skip ?_ | refine walkL_block ?_ | (refine walkL_region fun K hK => ?_; simp (maxSteps := 4000000) only [go_sem]; (repeat (first | (refine ⟨_, .lent (hf := h52) (hd := rfl) (hr := rfl), ?_⟩; simp (maxSteps := 4000000) only [go_sem]) | (refine ⟨_, .given (hf := h52) (hd := rfl) (ha := rfl), ?_⟩; simp (maxSteps := 4000000) only [go_sem]))); refine hK _ ?_; clear hK K) | refine walkL_nil ?_ | refine walkL_ret ?_ | refine walkL_exit ?_ | refine blockA_here ?_ | refine blockA_other rfl ?_ | refine blockA_ret ?_ | refine blockA_normal ?_ | refine thenA_ret ?_ | refine thenA_exit ?_ | refine thenA_normal ?_)
  refine walkL_cond rfl (fun hc => ?_) (fun hc => ?_)
  · have hc : ¬ openF n p [frm, to] [start, deadline] = 0 := by simpa using hc
    repeat (first | refine walkL_seq ?_ | refine walkL_skip ?_ | refine walkL_block ?_ | (refine walkL_region fun K hK => ?_; simp (maxSteps := 4000000) only [go_sem]; refine hK _ ?_; clear hK K) | refine walkL_nil ?_ | refine walkL_ret ?_ | refine walkL_exit ?_ | refine blockA_here ?_ | refine blockA_other rfl ?_ | refine blockA_ret ?_ | refine blockA_normal ?_ | refine thenA_ret ?_ | refine thenA_exit ?_ | refine thenA_normal ?_)
    simp (maxSteps := 4000000) only [go_sem, refVitalL, hc]
    rfl
  · have hop : openF n p [frm, to] [start, deadline] = 0 := by simpa using hc
    have ho := open_iff.1 hop
    have hfr := ho.place frm (by simp)
    have hto := ho.place to (by simp)
    have hpn := ho.net.paths
    have h55 := fun but => f55 n p frm start to but ho.net.ok hfr hto
    repeat (first | refine walkL_seq ?_ | refine walkL_skip ?_ | refine walkL_block ?_ | (refine walkL_region fun K hK => ?_; simp (maxSteps := 4000000) only [go_sem]; (repeat (first | (refine ⟨_, .lent (hf := h55 (-1)) (hd := rfl) (hr := rfl), ?_⟩; simp (maxSteps := 4000000) only [go_sem]) | (refine ⟨_, .given (hf := h55 (-1)) (hd := rfl) (ha := rfl), ?_⟩; simp (maxSteps := 4000000) only [go_sem]))); refine hK _ ?_; clear hK K) | refine walkL_nil ?_ | refine walkL_ret ?_ | refine walkL_exit ?_ | refine blockA_here ?_ | refine blockA_other rfl ?_ | refine blockA_ret ?_ | refine blockA_normal ?_ | refine thenA_ret ?_ | refine thenA_exit ?_ | refine thenA_normal ?_)
    refine walkL_cond rfl (fun hc => ?_) (fun hc => ?_)
    · have hc : sureF n p frm start to (-1) > deadline := by simpa using hc
      repeat (first | refine walkL_seq ?_ | refine walkL_skip ?_ | refine walkL_block ?_ | (refine walkL_region fun K hK => ?_; simp (maxSteps := 4000000) only [go_sem]; refine hK _ ?_; clear hK K) | refine walkL_nil ?_ | refine walkL_ret ?_ | refine walkL_exit ?_ | refine blockA_here ?_ | refine blockA_other rfl ?_ | refine blockA_ret ?_ | refine blockA_normal ?_ | refine thenA_ret ?_ | refine thenA_exit ?_ | refine thenA_normal ?_)
      simp (maxSteps := 4000000) only [go_sem, refVitalL, hop, hc]
      rfl
    · have hl0 : ¬ sureF n p frm start to (-1) > deadline := by simpa using hc
      obtain ⟨q, hq⟩ : ∃ q : Nat → Bool, q = fun (i : Nat) => decide (sureF n p frm start to (i : Int) > deadline) := ⟨_, rfl⟩
      repeat (first | refine walkL_seq ?_ | refine walkL_skip ?_ | refine walkL_block ?_ | (refine walkL_region fun K hK => ?_; simp (maxSteps := 4000000) only [go_sem]; refine hK _ ?_; clear hK K) | refine walkL_nil ?_ | refine walkL_ret ?_ | refine walkL_exit ?_ | refine blockA_here ?_ | refine blockA_other rfl ?_ | refine blockA_ret ?_ | refine blockA_normal ?_ | refine thenA_ret ?_ | refine thenA_exit ?_ | refine thenA_normal ?_)
      refine walkL_loopS (fun (i : Nat) => [(16, .d (.i i)), (15, .own 15)]) (fun i => [(15, some (.arr 3 1 (intRows (selL q i))))]) (fun i => i ≤ n.paths.length) (fun i => n.paths.length - i) 0 ?_ (Nat.zero_le _) ?_
      · simp (maxSteps := 4000000) only [go_sem]
        refine weak_of [15] ?_ ?_ rfl rfl <;> simp [lessT, lessM, lessB, AV.less, selL, intRows]
      · intro i hi
        simp (maxSteps := 4000000) only [go_sem]
        repeat (first | refine walkL_seq ?_ | refine walkL_skip ?_ | refine walkL_block ?_ | (refine walkL_region fun K hK => ?_; simp (maxSteps := 4000000) only [go_sem]; refine hK _ ?_; clear hK K) | refine walkL_nil ?_ | refine walkL_ret ?_ | refine walkL_exit ?_ | refine blockA_here ?_ | refine blockA_other rfl ?_ | refine blockA_ret ?_ | refine blockA_normal ?_ | refine thenA_ret ?_ | refine thenA_exit ?_ | refine thenA_normal ?_)
        refine walkL_cond rfl (fun hb => ?_) (fun hb => ?_)
        · have hlt : i < n.paths.length := by simpa using hb
          have hw : IntKind.i64.wrap ((i : Int) + 1) = ((i + 1 : Nat) : Int) := by rw [wr_small (by omega)]; simp
          have hn := selL_succ q i
          have hlen : (selL q i).length + 1 ≤ 549755813888 := by have := selL_len q i; omega
          repeat (first | refine walkL_seq ?_ | refine walkL_skip ?_ | refine walkL_block ?_ | (refine walkL_region fun K hK => ?_; simp (maxSteps := 4000000) only [go_sem]; (repeat (first | (refine ⟨_, .lent (hf := h55 i) (hd := rfl) (hr := rfl), ?_⟩; simp (maxSteps := 4000000) only [go_sem]) | (refine ⟨_, .given (hf := h55 i) (hd := rfl) (ha := rfl), ?_⟩; simp (maxSteps := 4000000) only [go_sem]))); refine hK _ ?_; clear hK K) | refine walkL_nil ?_ | refine walkL_ret ?_ | refine walkL_exit ?_ | refine blockA_here ?_ | refine blockA_other rfl ?_ | refine blockA_ret ?_ | refine blockA_normal ?_ | refine thenA_ret ?_ | refine thenA_exit ?_ | refine thenA_normal ?_)
          refine walkL_cond rfl (fun hc => ?_) (fun hc => ?_)
          · have hqi : q i = true := by rw [hq]; exact hc
            rw [hqi, if_pos rfl] at hn
            repeat (first | refine walkL_seq ?_ | refine walkL_skip ?_ | refine walkL_block ?_ | (refine walkL_region fun K hK => ?_; simp (maxSteps := 4000000) only [go_sem, hlen, intRows_len, hw]; refine hK _ ?_; clear hK K) | refine walkL_nil ?_ | refine walkL_ret ?_ | refine walkL_exit ?_ | refine blockA_here ?_ | refine blockA_other rfl ?_ | refine blockA_ret ?_ | refine blockA_normal ?_ | refine thenA_ret ?_ | refine thenA_exit ?_ | refine thenA_normal ?_)
            refine ⟨rfl, i + 1, ?_, hlt, by omega⟩
            rw [hn, ← intRows_append]
            refine weak_of [] ?_ ?_ rfl rfl <;> simp [lessT, lessM, lessB, AV.less]
            rfl
          · have hqi : q i = false := by rw [hq]; exact hc
            rw [hqi, if_neg (by simp), List.append_nil] at hn
            repeat (first | refine walkL_seq ?_ | refine walkL_skip ?_ | refine walkL_block ?_ | (refine walkL_region fun K hK => ?_; simp (maxSteps := 4000000) only [go_sem, hw]; refine hK _ ?_; clear hK K) | refine walkL_nil ?_ | refine walkL_ret ?_ | refine walkL_exit ?_ | refine blockA_here ?_ | refine blockA_other rfl ?_ | refine blockA_ret ?_ | refine blockA_normal ?_ | refine thenA_ret ?_ | refine thenA_exit ?_ | refine thenA_normal ?_)
            refine ⟨rfl, i + 1, ?_, hlt, by omega⟩
            rw [hn]
            refine weak_of [] ?_ ?_ rfl rfl <;> simp [lessT, lessM, lessB, AV.less]
        · have he : i = n.paths.length := by (have : ¬ i < n.paths.length := by simpa using hb); omega
          subst he
          repeat (first | refine walkL_seq ?_ | refine walkL_skip ?_ | refine walkL_block ?_ | (refine walkL_region fun K hK => ?_; simp (maxSteps := 4000000) only [go_sem]; refine hK _ ?_; clear hK K) | refine walkL_nil ?_ | refine walkL_ret ?_ | refine walkL_exit ?_ | refine blockA_here ?_ | refine blockA_other rfl ?_ | refine blockA_ret ?_ | refine blockA_normal ?_ | refine thenA_ret ?_ | refine thenA_exit ?_ | refine thenA_normal ?_)
          simp (maxSteps := 4000000) only [go_sem, refVitalL, hop, hl0, hq]

def withinL (n : Net) (p : Party) (frm start deadline : Int) : List Int × List Int × Int :=
  if openF n p [frm] [start, deadline] = 0 then (untilL deadline (arrivalsL n p spanHi frm start (-1)), untilL deadline (arrivalsL n p spanLo frm start (-1)), 0) else ([], [], openF n p [frm] [start, deadline])

theorem f37 (n : Net) (p : Party) (frm start deadline : Int) (hs : n.Small) : Fn Try.prog 37 [.agg n.cells, .agg p.cells, .i frm, .i start, .i deadline]
    (.tup [.sl (intRows (withinL n p frm start deadline).1), .sl (intRows (withinL n p frm start deadline).2.1), .i (withinL n p frm start deadline).2.2]) := by
  have h41 := f41 n p [frm] [start, deadline] hs (by simp) (by simp)
  refine fn_walk 43 Try.call37 Try.func37 rfl (by decide) fun J => ?_
  simp (maxSteps := 4000000) only [go_sem, St.start, Try.ntmps37, Try.results37, Net.cells, Party.cells]
  repeat (first | refine walkL_seq ?_ | refine walkL_skip ?_ | refine walkL_block ?_ | (refine walkL_region fun K hK => ?_; simp (maxSteps := 4000000) only [go_sem, walkCells]; (repeat (first | (refine ⟨_, .lent (hf := h41) (hd := rfl) (hr := rfl), ?_⟩; simp (maxSteps := 4000000) only [go_sem, walkCells]) | (refine ⟨_, .given (hf := h41) (hd := rfl) (ha := rfl), ?_⟩; simp (maxSteps := 4000000) only [go_sem, walkCells]))); refine hK _ ?_; clear hK K) | refine walkL_nil ?_ | refine walkL_ret ?_ | refine walkL_exit ?_ | refine blockA_here ?_ | refine blockA_other rfl ?_ | refine blockA_ret ?_ | refine blockA_normal ?_ | refine thenA_ret ?_ | refine thenA_exit ?_ | refine thenA_normal ?_)
  refine walkL_cond rfl (fun hc => ?_) (fun hc => ?_)
  · have hc : ¬ openF n p [frm] [start, deadline] = 0 := by simpa using hc
    repeat (first | refine walkL_seq ?_ | refine walkL_skip ?_ | refine walkL_block ?_ | (refine walkL_region fun K hK => ?_; simp (maxSteps := 4000000) only [go_sem]; refine hK _ ?_; clear hK K) | refine walkL_nil ?_ | refine walkL_ret ?_ | refine walkL_exit ?_ | refine blockA_here ?_ | refine blockA_other rfl ?_ | refine blockA_ret ?_ | refine blockA_normal ?_ | refine thenA_ret ?_ | refine thenA_exit ?_ | refine thenA_normal ?_)
    simp (maxSteps := 4000000) only [go_sem, withinL, hc]
    rfl
  · have hop : openF n p [frm] [start, deadline] = 0 := by simpa using hc
    have ho := open_iff.1 hop
    have hfr := ho.place frm (by simp)
    have hpl := ho.net.places
    have h42 := f42 n p frm start (-1) 43 spanHi (fun s => f43 s) ho.net.ok hfr
    have h42' := f42 n p frm start (-1) 60 spanLo (fun s => f60 s) ho.net.ok hfr
    have h79 := f79 (arrivalsL n p spanHi frm start (-1)) deadline (by rw [arrivals_len]; omega)
    have h79' := f79 (arrivalsL n p spanLo frm start (-1)) deadline (by rw [arrivals_len]; omega)
    repeat (first | refine walkL_seq ?_ | refine walkL_skip ?_ | refine walkL_block ?_ | (refine walkL_region fun K hK => ?_; simp (maxSteps := 4000000) only [go_sem]; refine hK _ ?_; clear hK K) | refine walkL_nil ?_ | refine walkL_ret ?_ | refine walkL_exit ?_ | refine blockA_here ?_ | refine blockA_other rfl ?_ | refine blockA_ret ?_ | refine blockA_normal ?_ | refine thenA_ret ?_ | refine thenA_exit ?_ | refine thenA_normal ?_)
    refine walkL_drawn (by kernel_rfl) (by kernel_rfl) fun K hK => ?_
    simp (maxSteps := 4000000) only [go_sem]
    refine ⟨_, .fnS (hdst := rfl) (hf := h42) (hd := rfl) (hr := .inr rfl) (hfr := rfl), ?_⟩
    simp (maxSteps := 4000000) only [go_sem]
    refine ⟨_, .fnS (hdst := rfl) (hf := h79) (hd := rfl) (hr := .inl (rowsFlat_int _)) (hfr := rfl), ?_⟩
    simp (maxSteps := 4000000) only [go_sem]
    refine ⟨_, .fnS (hdst := rfl) (hf := h42') (hd := rfl) (hr := .inr rfl) (hfr := rfl), ?_⟩
    simp (maxSteps := 4000000) only [go_sem]
    refine ⟨_, .fnS (hdst := rfl) (hf := h79') (hd := rfl) (hr := .inl (rowsFlat_int _)) (hfr := rfl), ?_⟩
    simp (maxSteps := 4000000) only [go_sem]
    refine ⟨by kernel_rfl, hK _ ?_⟩
    clear hK K
    repeat (first | refine walkL_seq ?_ | refine walkL_skip ?_ | refine walkL_block ?_ | (refine walkL_region fun K hK => ?_; simp (maxSteps := 4000000) only [go_sem]; refine hK _ ?_; clear hK K) | refine walkL_nil ?_ | refine walkL_ret ?_ | refine walkL_exit ?_ | refine blockA_here ?_ | refine blockA_other rfl ?_ | refine blockA_ret ?_ | refine blockA_normal ?_ | refine thenA_ret ?_ | refine thenA_exit ?_ | refine thenA_normal ?_)
    simp (maxSteps := 4000000) only [go_sem, withinL, hop]

def refWithinL (n : Net) (p : Party) (frm start deadline : Int) : List Int × List Int × Int :=
  if openF n p [frm] [start, deadline] = 0 then (untilL deadline (tableL n p frm start true (-1)), untilL deadline (tableL n p frm start false (-1)), 0) else ([], [], openF n p [frm] [start, deadline])

theorem f38 (n : Net) (p : Party) (frm start deadline : Int) (hs : n.Small) : Fn Try.prog 38 [.agg n.cells, .agg p.cells, .i frm, .i start, .i deadline]
    (.tup [.sl (intRows (refWithinL n p frm start deadline).1), .sl (intRows (refWithinL n p frm start deadline).2.1), .i (refWithinL n p frm start deadline).2.2]) := by
  have h52 := f52 n p [frm] [start, deadline] hs (by simp) (by simp)
  refine fn_walk 39 Try.call38 Try.func38 rfl (by decide) fun J => ?_
  simp (maxSteps := 4000000) only [go_sem, St.start, Try.ntmps38, Try.results38, Net.cells, Party.cells]
  repeat (first | refine walkL_seq ?_ | refine walkL_skip ?_ | refine walkL_block ?_ | (refine walkL_region fun K hK => ?_; simp (maxSteps := 4000000) only [go_sem]; (repeat (first | (refine ⟨_, .lent (hf := h52) (hd := rfl) (hr := rfl), ?_⟩; simp (maxSteps := 4000000) only [go_sem]) | (refine ⟨_, .given (hf := h52) (hd := rfl) (ha := rfl), ?_⟩; simp (maxSteps := 4000000) only [go_sem]))); refine hK _ ?_; clear hK K) | refine walkL_nil ?_ | refine walkL_ret ?_ | refine walkL_exit ?_ | refine blockA_here ?_ | refine blockA_other rfl ?_ | refine blockA_ret ?_ | refine blockA_normal ?_ | refine thenA_ret ?_ | refine thenA_exit ?_ | refine thenA_normal ?_)
  refine walkL_cond rfl (fun hc => ?_) (fun hc => ?_)
  · have hc : ¬ openF n p [frm] [start, deadline] = 0 := by simpa using hc
    repeat (first | refine walkL_seq ?_ | refine walkL_skip ?_ | refine walkL_block ?_ | (refine walkL_region fun K hK => ?_; simp (maxSteps := 4000000) only [go_sem]; refine hK _ ?_; clear hK K) | refine walkL_nil ?_ | refine walkL_ret ?_ | refine walkL_exit ?_ | refine blockA_here ?_ | refine blockA_other rfl ?_ | refine blockA_ret ?_ | refine blockA_normal ?_ | refine thenA_ret ?_ | refine thenA_exit ?_ | refine thenA_normal ?_)
    simp (maxSteps := 4000000) only [go_sem, refWithinL, hc]
    rfl
  · have hop : openF n p [frm] [start, deadline] = 0 := by simpa using hc
    have ho := open_iff.1 hop
    have hfr := ho.place frm (by simp)
    have hpl := ho.net.places
    have h76 := f76 n p frm start true (-1) ho.net.ok hfr
    have h76' := f76 n p frm start false (-1) ho.net.ok hfr
    have h80 := f80 (tableL n p frm start true (-1)) deadline (by rw [table_len]; omega)
    have h80' := f80 (tableL n p frm start false (-1)) deadline (by rw [table_len]; omega)
    repeat (first | refine walkL_seq ?_ | refine walkL_skip ?_ | refine walkL_block ?_ | (refine walkL_region fun K hK => ?_; simp (maxSteps := 4000000) only [go_sem]; refine hK _ ?_; clear hK K) | refine walkL_nil ?_ | refine walkL_ret ?_ | refine walkL_exit ?_ | refine blockA_here ?_ | refine blockA_other rfl ?_ | refine blockA_ret ?_ | refine blockA_normal ?_ | refine thenA_ret ?_ | refine thenA_exit ?_ | refine thenA_normal ?_)
    refine walkL_drawn (by kernel_rfl) (by kernel_rfl) fun K hK => ?_
    simp (maxSteps := 4000000) only [go_sem]
    refine ⟨_, .fn (hf := h76) (hd := rfl) (hr := .inr rfl), ?_⟩
    simp (maxSteps := 4000000) only [go_sem]
    refine ⟨_, .fnS (hdst := rfl) (hf := h80) (hd := rfl) (hr := .inl (rowsFlat_int _)) (hfr := rfl), ?_⟩
    simp (maxSteps := 4000000) only [go_sem]
    refine ⟨_, .fn (hf := h76') (hd := rfl) (hr := .inr rfl), ?_⟩
    simp (maxSteps := 4000000) only [go_sem]
    refine ⟨_, .fnS (hdst := rfl) (hf := h80') (hd := rfl) (hr := .inl (rowsFlat_int _)) (hfr := rfl), ?_⟩
    simp (maxSteps := 4000000) only [go_sem]
    refine ⟨by kernel_rfl, hK _ ?_⟩
    clear hK K
    repeat (first | refine walkL_seq ?_ | refine walkL_skip ?_ | refine walkL_block ?_ | (refine walkL_region fun K hK => ?_; simp (maxSteps := 4000000) only [go_sem]; refine hK _ ?_; clear hK K) | refine walkL_nil ?_ | refine walkL_ret ?_ | refine walkL_exit ?_ | refine blockA_here ?_ | refine blockA_other rfl ?_ | refine blockA_ret ?_ | refine blockA_normal ?_ | refine thenA_ret ?_ | refine thenA_exit ?_ | refine thenA_normal ?_)
    simp (maxSteps := 4000000) only [go_sem, refWithinL, hop]
end Go.Ab
namespace Go.Ab
open Go.RowKit Go.Proofs
set_option maxHeartbeats 4000000
set_option maxRecDepth 20000
attribute [local irreducible] WalkL Walk

theorem f47i (c : Int) (m : Nat) (h : m < 2 ^ 30) : FnS Try.prog 47 [.sl [[.i c]], .i m] 3 1 (intRows (List.replicate m c)) := by
  rw [← intRows_replicate]; exact f47 c m h

/-- One path, from the arrivals with k paths to those with one more. -/
def relaxS (p : Party) (now next : List Int) (w : Nat × Path) : List Int :=
  if getI now w.2.frm = never then next else next.set w.2.to.toNat (min (getI next w.2.to) (arriveF w.2.opens (getI now w.2.frm) (spanW w.2 p).hi))
def nextS (n : Net) (p : Party) (now : List Int) : List Int := (waysL n p (-1)).foldl (relaxS p now) (List.replicate n.places.toNat never)
def nowS (n : Net) (p : Party) (frm start : Int) (k : Nat) : List Int := iterL (nextS n p) k (arrivals0 n frm start)
def stepsL (n : Net) (p : Party) (frm start : Int) (k : Nat) : List (List Int) := (List.range (k + 1)).map (nowS n p frm start)

theorem relaxS_len (p : Party) (now next : List Int) (w : Nat × Path) : (relaxS p now next w).length = next.length := by unfold relaxS; split <;> simp
theorem foldS_len (p : Party) (now : List Int) : ∀ (ws : List (Nat × Path)) (l : List Int), (ws.foldl (relaxS p now) l).length = l.length
  | [], _ => rfl
  | w :: ws, l => by rw [List.foldl_cons, foldS_len p now ws, relaxS_len]
theorem nextS_len (n : Net) (p : Party) (now : List Int) : (nextS n p now).length = n.places.toNat := by rw [nextS, foldS_len]; simp
theorem nowS_len (n : Net) (p : Party) (frm start : Int) : ∀ k, (nowS n p frm start k).length = n.places.toNat
  | 0 => by simp [nowS, iterL, arrivals0]
  | k + 1 => nextS_len n p _

def slRows (ls : List (List Int)) : List (List DV) := ls.map fun l => [.sl (intRows l)]

theorem stepsL_succ (n : Net) (p : Party) (frm start : Int) (k : Nat) : slRows (stepsL n p frm start (k + 1)) = slRows (stepsL n p frm start k) ++ [[.sl (intRows (nextS n p (nowS n p frm start k)))]] := by
  simp only [slRows, stepsL]
  rw [List.range_succ (n := k + 1), List.map_append, List.map_append]
  rfl

theorem f45 (n : Net) (p : Party) (frm start : Int) (hn : n.Ok) (h1 : 1 ≤ n.places) (hfr : 0 ≤ frm ∧ frm < n.places) :
    FnS Try.prog 45 [.agg (walkCells n p), .i frm, .i start] 29 1 (slRows (stepsL n p frm start (n.places.toNat - 1))) := by
  obtain ⟨m, hm⟩ : ∃ m : Nat, n.places = m := ⟨n.places.toNat, by have := hn.places.1; omega⟩
  have hpl := hn.places
  have htn : n.places.toNat = m := by omega
  have h47 : FnS Try.prog 47 [.sl [[.i never]], .i n.places] 3 1 (intRows (List.replicate m never)) := by rw [hm]; exact f47i never m (by omega)
  have hw1 : IntKind.i64.wrap (n.places - 1) = n.places - 1 := wr_small (by omega)
  have hlt : frm.toNat < m := by omega
  have hg : (intRows (List.replicate m never))[frm.toNat]? = some [.i never] := by simp [intRows, hlt]
  have hrl : (intRows (List.replicate m never)).length = m := by simp [intRows]
  have hset : (List.replicate m never).set frm.toNat start = nowS n p frm start 0 := by rw [nowS, iterL, arrivals0, hm]; rfl
  have hg0 : (intRows (nowS n p frm start 0))[frm.toNat]? = some [.i start] := by rw [← hset]; simp [intRows, hlt]
  refine fnS_walk 73 Try.call45 Try.func45 rfl (by decide) fun J => ?_
  simp (maxSteps := 4000000) only [go_sem, St.start, Try.ntmps45, Try.results45, walkCells]
  repeat (first | refine walkL_seq ?_ | refine walkL_skip ?_ | refine walkL_block ?_ | (refine walkL_region fun K hK => ?_; simp (maxSteps := 4000000) only [go_sem]; refine hK _ ?_; clear hK K) | refine walkL_nil ?_ | refine walkL_ret ?_ | refine walkL_exit ?_ | refine blockA_here ?_ | refine blockA_other rfl ?_ | refine blockA_ret ?_ | refine blockA_normal ?_ | refine thenA_ret ?_ | refine thenA_exit ?_ | refine thenA_normal ?_)
  refine walkL_region fun K hK => ?_
  simp (maxSteps := 4000000) only [go_sem]
  refine ⟨_, .lentS (hdst := rfl) (hf := h47) (hd := rfl) (hr := rowsFlat_int _) (hfr := rfl), ?_⟩
  simp (maxSteps := 4000000) only [go_sem]
  refine hK _ ?_
  clear hK K
  repeat (first | refine walkL_seq ?_ | refine walkL_skip ?_ | refine walkL_block ?_ | (refine walkL_region fun K hK => ?_; simp (maxSteps := 4000000) only [go_sem, hlt, hg, hrl, hfr.1, intRows_set, hset, hw1, hg0]; refine hK _ ?_; clear hK K) | refine walkL_nil ?_ | refine walkL_ret ?_ | refine walkL_exit ?_ | refine blockA_here ?_ | refine blockA_other rfl ?_ | refine blockA_ret ?_ | refine blockA_normal ?_ | refine thenA_ret ?_ | refine thenA_exit ?_ | refine thenA_normal ?_)
  refine walkL_loopS (fun (k : Nat) => [(27, .d (.i k)), (8, .own 22), (22, .undef)]) (fun k => [(7, some (.box [.d (.sl (intRows (nowS n p frm start k)))])), (22, some (.arr 29 1 (slRows (stepsL n p frm start k))))]) (fun k => k ≤ m - 1) (fun k => m - 1 - k) 0 ?_ (Nat.zero_le _) ?_
  · simp (maxSteps := 4000000) only [go_sem]
    refine weak_of [] ?_ ?_ rfl rfl <;> simp [lessT, lessM, lessB, AV.less]
    rfl
  · intro k hk
    obtain ⟨now, hnow⟩ : ∃ now, now = nowS n p frm start k := ⟨_, rfl⟩
    have hnl : now.length = m := by rw [hnow, nowS_len]; exact htn
    have hsn := stepsL_succ n p frm start k
    rw [← hnow] at hsn ⊢
    obtain ⟨rows, hrows⟩ : ∃ rows, rows = slRows (stepsL n p frm start k) := ⟨_, rfl⟩
    have hrowl : rows.length = k + 1 := by rw [hrows]; simp [slRows, stepsL]
    rw [← hrows] at hsn ⊢
    simp (maxSteps := 4000000) only [go_sem]
    repeat (first | refine walkL_seq ?_ | refine walkL_skip ?_ | refine walkL_block ?_ | (refine walkL_region fun K hK => ?_; simp (maxSteps := 4000000) only [go_sem]; refine hK _ ?_; clear hK K) | refine walkL_nil ?_ | refine walkL_ret ?_ | refine walkL_exit ?_ | refine blockA_here ?_ | refine blockA_other rfl ?_ | refine blockA_ret ?_ | refine blockA_normal ?_ | refine thenA_ret ?_ | refine thenA_exit ?_ | refine thenA_normal ?_)
    refine walkL_cond rfl (fun hb => ?_) (fun hb => ?_)
    · have hb : (k : Int) < n.places - 1 := by simpa using hb
      have hlk : k < m - 1 := by omega
      have hw : IntKind.i64.wrap ((k : Int) + 1) = ((k + 1 : Nat) : Int) := by rw [wr_small (by omega)]; simp
      repeat (first | refine walkL_seq ?_ | refine walkL_skip ?_ | refine walkL_block ?_ | (refine walkL_region fun K hK => ?_; simp (maxSteps := 4000000) only [go_sem]; refine hK _ ?_; clear hK K) | refine walkL_nil ?_ | refine walkL_ret ?_ | refine walkL_exit ?_ | refine blockA_here ?_ | refine blockA_other rfl ?_ | refine blockA_ret ?_ | refine blockA_normal ?_ | refine thenA_ret ?_ | refine thenA_exit ?_ | refine thenA_normal ?_)
      refine walkL_region fun K hK => ?_
      simp (maxSteps := 4000000) only [go_sem]
      refine ⟨_, .lentS (hdst := rfl) (hf := h47) (hd := rfl) (hr := rowsFlat_int _) (hfr := rfl), ?_⟩
      simp (maxSteps := 4000000) only [go_sem]
      refine hK _ ?_
      clear hK K
      repeat (first | refine walkL_seq ?_ | refine walkL_skip ?_ | refine walkL_block ?_ | (refine walkL_region fun K hK => ?_; simp (maxSteps := 4000000) only [go_sem]; (repeat (first | (refine ⟨_, .lent (hf := f48 n p (-1)) (hd := rfl) (hr := rfl), ?_⟩; simp (maxSteps := 4000000) only [go_sem]) | (refine ⟨_, .given (hf := f48 n p (-1)) (hd := rfl) (ha := rfl), ?_⟩; simp (maxSteps := 4000000) only [go_sem]))); refine hK _ ?_; clear hK K) | refine walkL_nil ?_ | refine walkL_ret ?_ | refine walkL_exit ?_ | refine blockA_here ?_ | refine blockA_other rfl ?_ | refine blockA_ret ?_ | refine blockA_normal ?_ | refine thenA_ret ?_ | refine thenA_exit ?_ | refine thenA_normal ?_)
      refine walkL_rangeS (g := .tmp 35) rfl (iter87 n p (-1) (by have := hn.paths; omega)) (by intro row hr; obtain ⟨w, _, rfl⟩ := List.mem_map.1 hr; rfl) (fun _ => []) (fun (a : List Int) => [(33, some (.arr 3 1 (intRows a)))])
        (fun i a => a = ((waysL n p (-1)).take i).foldl (relaxS p now) (List.replicate m never)) (fun _ _ => False) (List.replicate m never) ?_ rfl ?_ ?_ (fun _ _ h => h.elim)
      · simp (maxSteps := 4000000) only [go_sem]
        refine weak_of [] ?_ ?_ rfl rfl <;> simp [lessT, lessM, lessB, AV.less]
      · intro i a row hi ha l2 m2
        simp only [List.getElem?_map, Option.map_eq_some_iff] at hi
        obtain ⟨w, hw1, rfl⟩ := hi
        have hx := waysL_get (List.mem_of_getElem? hw1)
        have hmem := List.mem_of_getElem? hx
        have hlen : a.length = m := by rw [ha, foldS_len]; simp
        have hf := hn.frm w.2 hmem
        have ht := hn.to w.2 hmem
        have g1 : (intRows a)[w.2.to.toNat]? = some [.i (getI a w.2.to)] := intRows_get ht.1 (by omega)
        have g2 : (intRows now)[w.2.frm.toNat]? = some [.i (getI now w.2.frm)] := intRows_get hf.1 (by omega)
        have g3 : w.2.to.toNat < (intRows a).length := by rw [intRows_len]; omega
        have g4 : w.2.frm.toNat < (intRows now).length := by rw [intRows_len]; omega
        have h50 := f50 n p w.1 w.2 (getI now w.2.frm) (spanW w.2 p).hi hx (by have := hn.opens w.2 hmem; omega)
        have h51 := f51 n p w.1 w.2 hx
        have hnext : ((waysL n p (-1)).take (i + 1)).foldl (relaxS p now) (List.replicate m never) = relaxS p now a w := by rw [ha]; exact foldl_take_succ _ _ _ _ _ hw1
        simp (maxSteps := 4000000) only [go_sem, wayRow, Path.row]
        repeat (first | refine walkL_seq ?_ | refine walkL_skip ?_ | refine walkL_block ?_ | (refine walkL_region fun K hK => ?_; simp (maxSteps := 4000000) only [go_sem, g1, g2, g3, g4, ht.1, hf.1]; refine hK _ ?_; clear hK K) | refine walkL_nil ?_ | refine walkL_ret ?_ | refine walkL_exit ?_ | refine blockA_here ?_ | refine blockA_other rfl ?_ | refine blockA_ret ?_ | refine blockA_normal ?_ | refine thenA_ret ?_ | refine thenA_exit ?_ | refine thenA_normal ?_)
        refine walkL_cond rfl (fun hc => ?_) (fun hc => ?_)
        · have hnv : ¬ getI now w.2.frm = never := by intro e; rw [e] at hc; simp [never] at hc
          repeat (first | refine walkL_seq ?_ | refine walkL_skip ?_ | refine walkL_block ?_ | (refine walkL_region fun K hK => ?_; simp (maxSteps := 4000000) only [go_sem]; refine hK _ ?_; clear hK K) | refine walkL_nil ?_ | refine walkL_ret ?_ | refine walkL_exit ?_ | refine blockA_here ?_ | refine blockA_other rfl ?_ | refine blockA_ret ?_ | refine blockA_normal ?_ | refine thenA_ret ?_ | refine thenA_exit ?_ | refine thenA_normal ?_)
          refine walkL_drawn (by kernel_rfl) (by kernel_rfl) fun K hK => ?_
          simp (maxSteps := 4000000) only [go_sem, g1, g2, g3, g4, ht.1, hf.1]
          refine ⟨_, .fn (hf := h51) (hd := rfl) (hr := .inl rfl), ?_⟩
          simp (maxSteps := 4000000) only [go_sem, Span.row, g1, g2, g3, g4, ht.1, hf.1]
          refine ⟨_, .fn (hf := h50) (hd := rfl) (hr := .inl rfl), ?_⟩
          simp (maxSteps := 4000000) only [go_sem, g1, g2, g3, g4, ht.1, hf.1]
          refine ⟨by kernel_rfl, hK _ ?_⟩
          clear hK K
          repeat (first | refine walkL_seq ?_ | refine walkL_skip ?_ | refine walkL_block ?_ | (refine walkL_region fun K hK => ?_; simp (maxSteps := 4000000) only [go_sem]; refine hK _ ?_; clear hK K) | refine walkL_nil ?_ | refine walkL_ret ?_ | refine walkL_exit ?_ | refine blockA_here ?_ | refine blockA_other rfl ?_ | refine blockA_ret ?_ | refine blockA_normal ?_ | refine thenA_ret ?_ | refine thenA_exit ?_ | refine thenA_normal ?_)
          refine ⟨rfl, relaxS p now a w, ?_, hnext.symm⟩
          rw [relaxS, if_neg hnv, ← intRows_set]
          simp (maxSteps := 4000000) only [go_sem]
          refine weak_of [] ?_ ?_ rfl rfl <;> simp [lessT, lessM, lessB, AV.less]
        · have hcv : getI now w.2.frm = never := by simpa [never] using hc
          repeat (first | refine walkL_seq ?_ | refine walkL_skip ?_ | refine walkL_block ?_ | (refine walkL_region fun K hK => ?_; simp (maxSteps := 4000000) only [go_sem]; refine hK _ ?_; clear hK K) | refine walkL_nil ?_ | refine walkL_ret ?_ | refine walkL_exit ?_ | refine blockA_here ?_ | refine blockA_other rfl ?_ | refine blockA_ret ?_ | refine blockA_normal ?_ | refine thenA_ret ?_ | refine thenA_exit ?_ | refine thenA_normal ?_)
          refine ⟨rfl, relaxS p now a w, ?_, hnext.symm⟩
          rw [relaxS, if_pos hcv]
          simp (maxSteps := 4000000) only [go_sem]
          refine weak_of [] ?_ ?_ rfl rfl <;> simp [lessT, lessM, lessB, AV.less]
      · intro a ha
        rw [List.length_map, List.take_length] at ha
        have ha : a = nextS n p now := by rw [ha, nextS, htn]
        have hfit : rows.length + 1 ≤ 549755813888 := by omega
        simp (maxSteps := 4000000) only [go_sem]
        repeat (first | refine walkL_seq ?_ | refine walkL_skip ?_ | refine walkL_block ?_ | (refine walkL_region fun K hK => ?_; simp (maxSteps := 4000000) only [go_sem, hfit, hw]; refine hK _ ?_; clear hK K) | refine walkL_nil ?_ | refine walkL_ret ?_ | refine walkL_exit ?_ | refine blockA_here ?_ | refine blockA_other rfl ?_ | refine blockA_ret ?_ | refine blockA_normal ?_ | refine thenA_ret ?_ | refine thenA_exit ?_ | refine thenA_normal ?_)
        have hnow1 : nowS n p frm start (k + 1) = a := by rw [ha, hnow]; rfl
        refine ⟨rfl, k + 1, ?_, by omega, by omega⟩
        rw [hnow1, hsn, ← ha]
        refine weak_of [] ?_ ?_ rfl rfl <;> simp [lessT, lessM, lessB, AV.less]
    · have he : k = m - 1 := by (have : ¬ (k : Int) < n.places - 1 := by simpa using hb); omega
      subst he
      repeat (first | refine walkL_seq ?_ | refine walkL_skip ?_ | refine walkL_block ?_ | (refine walkL_region fun K hK => ?_; simp (maxSteps := 4000000) only [go_sem]; refine hK _ ?_; clear hK K) | refine walkL_nil ?_ | refine walkL_ret ?_ | refine walkL_exit ?_ | refine blockA_here ?_ | refine blockA_other rfl ?_ | refine blockA_ret ?_ | refine blockA_normal ?_ | refine thenA_ret ?_ | refine thenA_exit ?_ | refine thenA_normal ?_)
      simp (maxSteps := 4000000) only [go_sem, hrows, htn]
end Go.Ab
