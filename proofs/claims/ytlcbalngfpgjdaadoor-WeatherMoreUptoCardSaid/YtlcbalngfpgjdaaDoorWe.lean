/- A walk engine over abstract states, and the contracts of the functions that the statement reaches: part 5. -/
import Derived.Test.YtlcbalngfpgjdaaDoorWd
import Derived.ChangeArms
import Derived.Test.YtlcbalngfpgjdaaDoorRows
import Derived.JoinedCond
import Derived.Carry
import Derived.RowKit
import Derived.LaidMore
import Derived.LaidLaws
import Derived.LaidHandle
import Derived.MakeChecks
import Derived.Deep.Strs
set_option linter.unusedVariables false
set_option linter.unusedSimpArgs false
set_option linter.unnecessarySimpa false
namespace Go.Ab
open Go.RowKit Go.Proofs
set_option maxHeartbeats 8000000
set_option maxRecDepth 20000
attribute [local irreducible] WalkL Walk

/-! ### The rules of a path -/

theorem hid_prog : hidP Tryd.prog = true := by kernel_rfl
attribute [go_sem] hid_prog

def andL (a l : Limits) : Limits := ⟨min a.wind l.wind, min a.rain l.rain, ⟨max a.temp.lo l.temp.lo, min a.temp.hi l.temp.hi⟩⟩
def wideL : Limits := ⟨200, 100, ⟨-50, 50⟩⟩

theorem f119 (a l : Limits) : Fn Tryd.prog 119 [.agg a.row, .agg l.row] (.agg (andL a l).row) := by
  refine fn_walk 36 Tryd.call119 Tryd.func119 rfl (by decide) fun J => ?_
  simp (maxSteps := 4000000) only [go_sem, St.start, Tryd.ntmps119, Tryd.results119, Limits.row]
  repeat (first | refine walkL_seq ?_ | refine walkL_skip ?_ | refine walkL_block ?_ | (refine walkL_region fun K hK => ?_; simp (maxSteps := 4000000) only [go_sem]; refine hK _ ?_; clear hK K) | refine walkL_nil ?_ | refine walkL_ret ?_ | refine walkL_exit ?_ | refine blockA_here ?_ | refine blockA_other rfl ?_ | refine blockA_ret ?_ | refine blockA_normal ?_ | refine thenA_ret ?_ | refine thenA_exit ?_ | refine thenA_normal ?_)
  simp (maxSteps := 4000000) only [go_sem, andL, Limits.row]

/-- The limits that an hour must keep for the path to be open in another one. -/
def limF (rules : List Rule) (before hour : Int) : Limits := rules.foldl (fun l x => if decide (hour - x.after ≤ before) then andL l x.lim else l) wideL

theorem f115 (o : DV) (rules : List Rule) (before hour : Int) (ha : ∀ x ∈ rules, 0 ≤ x.after ∧ x.after ≤ 48) (hh : 0 ≤ hour ∧ hour ≤ 1000) (hl : rules.length < 2 ^ 30) :
    Fn Tryd.prog 115 [.ptr [o, .sl (ruleRows rules)] 0, .i before, .i hour] (.agg (limF rules before hour).row) := by
  refine fn_walk 32 Tryd.call115 Tryd.func115 rfl (by decide) fun J => ?_
  simp (maxSteps := 4000000) only [go_sem, St.start, Tryd.ntmps115, Tryd.results115]
  repeat (first | refine walkL_seq ?_ | refine walkL_skip ?_ | refine walkL_block ?_ | (refine walkL_region fun K hK => ?_; simp (maxSteps := 4000000) only [go_sem]; refine hK _ ?_; clear hK K) | refine walkL_nil ?_ | refine walkL_ret ?_ | refine walkL_exit ?_ | refine blockA_here ?_ | refine blockA_other rfl ?_ | refine blockA_ret ?_ | refine blockA_normal ?_ | refine thenA_ret ?_ | refine thenA_exit ?_ | refine thenA_normal ?_)
  refine walkL_loopS (fun (i : Nat) => [(16, .d (.i i))]) (fun i => [(7, some (.box ((limF (rules.take i) before hour).row.map AV.d)))]) (fun i => i ≤ rules.length) (fun i => rules.length - i) 0 ?_ (Nat.zero_le _) ?_
  · simp (maxSteps := 4000000) only [go_sem, Limits.row, List.map_cons, List.map_nil]
    refine weak_of [] ?_ ?_ rfl rfl <;> simp [lessT, lessM, lessB, AV.less]
    all_goals first | done | rfl | exact ⟨rfl, rfl, rfl, rfl⟩
  · intro i hi
    obtain ⟨a, ha0⟩ : ∃ a, a = limF (rules.take i) before hour := ⟨_, rfl⟩
    rw [← ha0]
    simp (maxSteps := 4000000) only [go_sem, Limits.row, List.map_cons, List.map_nil]
    repeat (first | refine walkL_seq ?_ | refine walkL_skip ?_ | refine walkL_block ?_ | (refine walkL_region fun K hK => ?_; simp (maxSteps := 4000000) only [go_sem]; refine hK _ ?_; clear hK K) | refine walkL_nil ?_ | refine walkL_ret ?_ | refine walkL_exit ?_ | refine blockA_here ?_ | refine blockA_other rfl ?_ | refine blockA_ret ?_ | refine blockA_normal ?_ | refine thenA_ret ?_ | refine thenA_exit ?_ | refine thenA_normal ?_)
    refine walkL_cond rfl (fun hb => ?_) (fun hb => ?_)
    · have hlt : i < rules.length := by simpa using hb
      have hw : IntKind.i64.wrap ((i : Int) + 1) = ((i + 1 : Nat) : Int) := by rw [wr_small (by omega)]; simp
      obtain ⟨x, hx⟩ : ∃ x, rules[i]? = some x := ⟨_, List.getElem?_eq_getElem hlt⟩
      have g1 := ruleRows_at hx
      have hax := ha x (List.mem_of_getElem? hx)
      have w1 : IntKind.i64.wrap (hour - x.after) = hour - x.after := wr_small (by omega)
      have n1 : limF (rules.take (i + 1)) before hour = if decide (hour - x.after ≤ before) then andL a x.lim else a := by rw [ha0]; exact foldl_take_succ _ _ _ _ _ hx
      have c1 := f119 a x.lim
      simp only [Limits.row] at c1
      cases q : decide (hour - x.after ≤ before)
      all_goals
        rw [q] at n1
        simp only [Bool.false_eq_true, if_false, if_true] at n1
        repeat (first | refine walkL_true rfl ?_ | refine walkL_false rfl ?_ | refine walkL_seq ?_ | refine walkL_skip ?_ | refine walkL_block ?_ | (refine walkL_region fun K hK => ?_; simp (maxSteps := 4000000) only [go_sem, g1, Rule.row, w1, q, hw]; (repeat (first | (refine ⟨_, .lent (hf := c1) (hd := rfl) (hr := rfl), ?_⟩; simp (maxSteps := 4000000) only [go_sem, g1, Rule.row, w1, q, hw]) | (refine ⟨_, .given (hf := c1) (hd := rfl) (ha := rfl), ?_⟩; simp (maxSteps := 4000000) only [go_sem, g1, Rule.row, w1, q, hw]))); refine hK _ ?_; clear hK K) | refine walkL_nil ?_ | refine walkL_ret ?_ | refine walkL_exit ?_ | refine blockA_here ?_ | refine blockA_other rfl ?_ | refine blockA_ret ?_ | refine blockA_normal ?_ | refine thenA_ret ?_ | refine thenA_exit ?_ | refine thenA_normal ?_)
        refine ⟨rfl, i + 1, ?_, hlt, by omega⟩
        rw [n1]
        refine weak_of [] ?_ ?_ rfl rfl <;> simp [lessT, lessM, lessB, AV.less]
        all_goals first | done | rfl | simp [Limits.row]
    · have he : i = rules.length := by (have : ¬ i < rules.length := by simpa using hb); omega
      subst he
      rw [List.take_length] at ha0
      rw [← ha0]
      repeat (first | refine walkL_seq ?_ | refine walkL_skip ?_ | refine walkL_block ?_ | (refine walkL_region fun K hK => ?_; simp (maxSteps := 4000000) only [go_sem]; refine hK _ ?_; clear hK K) | refine walkL_nil ?_ | refine walkL_ret ?_ | refine walkL_exit ?_ | refine blockA_here ?_ | refine blockA_other rfl ?_ | refine blockA_ret ?_ | refine blockA_normal ?_ | refine thenA_ret ?_ | refine thenA_exit ?_ | refine thenA_normal ?_)
      simp (maxSteps := 4000000) only [go_sem, Limits.row]

/-- The hours up to one, each for this one, keep the limits of the rules in a way. -/
def keepsB (kf : Limits → Hour → Bool) (rules : List Rule) (s : List Hour) (hour : Nat) : Bool := (List.range (hour + 1)).all fun b => kf (limF rules (b : Int) (hour : Int)) (hourAt s (b : Int))

theorem range_all_succ (q : Nat → Bool) (n : Nat) : (List.range (n + 1)).all q = ((List.range n).all q && q n) := by
  rw [List.range_succ, List.all_append]; simp
theorem range_all_bad {q : Nat → Bool} {i n : Nat} (hi : i < n) (h : q i = false) : (List.range n).all q = false := by
  cases hc : (List.range n).all q with
  | false => rfl
  | true => rw [List.all_eq_true] at hc; have := hc i (List.mem_range.2 hi); rw [h] at this; cases this

theorem f97 (o : DV) (rules : List Rule) (s : List Hour) (hour : Nat) (g : Nat) (kf : Limits → Hour → Bool) (hk : ∀ L h, Fn Tryd.prog g [.agg L.row, .agg h.row] (.bool (kf L h))) (ha : ∀ x ∈ rules, 0 ≤ x.after ∧ x.after ≤ 48) (hh : hour < s.length) (hs : s.length ≤ 48) (hl : rules.length < 2 ^ 30) :
    Fn Tryd.prog 97 [.ptr [o, .sl (ruleRows rules)] 0, .sl (hourRows s), .i hour, .fn g []] (.bool (keepsB kf rules s hour)) := by
  have w0 : IntKind.i64.wrap ((hour : Int) + 1) = ((hour + 1 : Nat) : Int) := by rw [wr_small (by omega)]; simp
  refine fn_walk 27 Tryd.call97 Tryd.func97 rfl (by decide) fun J => ?_
  simp (maxSteps := 4000000) only [go_sem, St.start, Tryd.ntmps97, Tryd.results97]
  repeat (first | refine walkL_seq ?_ | refine walkL_skip ?_ | refine walkL_block ?_ | (refine walkL_region fun K hK => ?_; simp (maxSteps := 4000000) only [go_sem, w0]; refine hK _ ?_; clear hK K) | refine walkL_nil ?_ | refine walkL_ret ?_ | refine walkL_exit ?_ | refine blockA_here ?_ | refine blockA_other rfl ?_ | refine blockA_ret ?_ | refine blockA_normal ?_ | refine thenA_ret ?_ | refine thenA_exit ?_ | refine thenA_normal ?_)
  refine walkL_loopS (fun (i : Nat) => [(12, .d (.i i)), (9, .undef)]) (fun _ => []) (fun i => i ≤ hour + 1 ∧ ((List.range i).all fun b => kf (limF rules (b : Int) (hour : Int)) (hourAt s (b : Int))) = true) (fun i => hour + 1 - i) 0 ?_ ⟨Nat.zero_le _, rfl⟩ ?_
  · simp (maxSteps := 4000000) only [go_sem]
    refine weak_of [] ?_ ?_ rfl rfl <;> simp [lessT, lessM, lessB, AV.less]
  · intro i ⟨hi, hall⟩
    simp (maxSteps := 4000000) only [go_sem]
    repeat (first | refine walkL_seq ?_ | refine walkL_skip ?_ | refine walkL_block ?_ | (refine walkL_region fun K hK => ?_; simp (maxSteps := 4000000) only [go_sem]; refine hK _ ?_; clear hK K) | refine walkL_nil ?_ | refine walkL_ret ?_ | refine walkL_exit ?_ | refine blockA_here ?_ | refine blockA_other rfl ?_ | refine blockA_ret ?_ | refine blockA_normal ?_ | refine thenA_ret ?_ | refine thenA_exit ?_ | refine thenA_normal ?_)
    refine walkL_cond rfl (fun hb => ?_) (fun hb => ?_)
    · have hlt : i < hour + 1 := by have := of_decide_eq_true hb; omega
      have hw : IntKind.i64.wrap ((i : Int) + 1) = ((i + 1 : Nat) : Int) := by rw [wr_small (by omega)]; simp
      have c1 := f115 o rules i hour ha ⟨by omega, by omega⟩ hl
      have g1 := hourRows_at (hourAt_get (l := s) (i := (i : Int)) ⟨by omega, by omega⟩)
      rw [Int.toNat_natCast] at g1
      have c2 := hk (limF rules i hour) (hourAt s (i : Int))
      have n1 := range_all_succ (fun b => kf (limF rules (b : Int) (hour : Int)) (hourAt s (b : Int))) i
      rw [hall, Bool.true_and] at n1
      cases q : kf (limF rules i hour) (hourAt s (i : Int))
      · have e : keepsB kf rules s hour = false := range_all_bad hlt q
        rw [e]
        rw [q] at c2
        rw [Hour.row] at c2 g1
        repeat (first | refine walkL_true rfl ?_ | refine walkL_false rfl ?_ | refine walkL_seq ?_ | refine walkL_skip ?_ | refine walkL_block ?_ | (refine walkL_region fun K hK => ?_; simp (maxSteps := 4000000) only [go_sem]; refine hK _ ?_; clear hK K) | refine walkL_nil ?_ | refine walkL_ret ?_ | refine walkL_exit ?_ | refine blockA_here ?_ | refine blockA_other rfl ?_ | refine blockA_ret ?_ | refine blockA_normal ?_ | refine thenA_ret ?_ | refine thenA_exit ?_ | refine thenA_normal ?_)
        refine walkL_drawn (by kernel_rfl) (by kernel_rfl) fun K hK => ?_
        simp (maxSteps := 4000000) only [go_sem]
        refine ⟨_, .fn (hf := c1) (hd := rfl) (hr := .inr rfl), ?_⟩
        simp (maxSteps := 4000000) only [go_sem, g1]
        refine ⟨_, .fn (hf := c2) (hd := rfl) (hr := .inr rfl), ?_⟩
        simp (maxSteps := 4000000) only [go_sem]
        refine ⟨by kernel_rfl, hK _ ?_⟩
        clear hK K
        repeat (first | refine walkL_true rfl ?_ | refine walkL_false rfl ?_ | refine walkL_seq ?_ | refine walkL_skip ?_ | refine walkL_block ?_ | (refine walkL_region fun K hK => ?_; simp (maxSteps := 4000000) only [go_sem]; refine hK _ ?_; clear hK K) | refine walkL_nil ?_ | refine walkL_ret ?_ | refine walkL_exit ?_ | refine blockA_here ?_ | refine blockA_other rfl ?_ | refine blockA_ret ?_ | refine blockA_normal ?_ | refine thenA_ret ?_ | refine thenA_exit ?_ | refine thenA_normal ?_)
        simp (maxSteps := 4000000) only [go_sem]
      · rw [q] at c2 n1
        rw [Hour.row] at c2 g1
        repeat (first | refine walkL_true rfl ?_ | refine walkL_false rfl ?_ | refine walkL_seq ?_ | refine walkL_skip ?_ | refine walkL_block ?_ | (refine walkL_region fun K hK => ?_; simp (maxSteps := 4000000) only [go_sem]; refine hK _ ?_; clear hK K) | refine walkL_nil ?_ | refine walkL_ret ?_ | refine walkL_exit ?_ | refine blockA_here ?_ | refine blockA_other rfl ?_ | refine blockA_ret ?_ | refine blockA_normal ?_ | refine thenA_ret ?_ | refine thenA_exit ?_ | refine thenA_normal ?_)
        refine walkL_drawn (by kernel_rfl) (by kernel_rfl) fun K hK => ?_
        simp (maxSteps := 4000000) only [go_sem]
        refine ⟨_, .fn (hf := c1) (hd := rfl) (hr := .inr rfl), ?_⟩
        simp (maxSteps := 4000000) only [go_sem, g1]
        refine ⟨_, .fn (hf := c2) (hd := rfl) (hr := .inr rfl), ?_⟩
        simp (maxSteps := 4000000) only [go_sem]
        refine ⟨by kernel_rfl, hK _ ?_⟩
        clear hK K
        repeat (first | refine walkL_true rfl ?_ | refine walkL_false rfl ?_ | refine walkL_seq ?_ | refine walkL_skip ?_ | refine walkL_block ?_ | (refine walkL_region fun K hK => ?_; simp (maxSteps := 4000000) only [go_sem, hw]; refine hK _ ?_; clear hK K) | refine walkL_nil ?_ | refine walkL_ret ?_ | refine walkL_exit ?_ | refine blockA_here ?_ | refine blockA_other rfl ?_ | refine blockA_ret ?_ | refine blockA_normal ?_ | refine thenA_ret ?_ | refine thenA_exit ?_ | refine thenA_normal ?_)
        refine ⟨rfl, i + 1, ?_, ⟨hlt, n1⟩, by omega⟩
        refine weak_of [] ?_ ?_ rfl rfl <;> simp [lessT, lessM, lessB, AV.less]
    · have he : i = hour + 1 := by have := of_decide_eq_false hb; omega
      subst he
      have e : keepsB kf rules s hour = true := hall
      rw [e]
      repeat (first | refine walkL_seq ?_ | refine walkL_skip ?_ | refine walkL_block ?_ | (refine walkL_region fun K hK => ?_; simp (maxSteps := 4000000) only [go_sem]; refine hK _ ?_; clear hK K) | refine walkL_nil ?_ | refine walkL_ret ?_ | refine walkL_exit ?_ | refine blockA_here ?_ | refine blockA_other rfl ?_ | refine blockA_ret ?_ | refine blockA_normal ?_ | refine thenA_ret ?_ | refine thenA_exit ?_ | refine thenA_normal ?_)
      simp (maxSteps := 4000000) only [go_sem]

theorem f96 (o : DV) (rules : List Rule) (s : List Hour) (hour : Nat) (ha : ∀ x ∈ rules, 0 ≤ x.after ∧ x.after ≤ 48) (hh : hour < s.length) (hs : s.length ≤ 48) (hl : rules.length < 2 ^ 30) :
    Fn Tryd.prog 96 [.sl (hourRows s), .i hour, .ptr [.ptr [o, .sl (ruleRows rules)] 0] 0] (.bool (keepsB alwaysB rules s hour)) := by
  have c := f97 o rules s hour 43 alwaysB f43 ha hh hs hl
  refine fn_walk 10 Tryd.call96 Tryd.func96 rfl (by decide) fun J => ?_
  simp (maxSteps := 4000000) only [go_sem, St.start, Tryd.ntmps96, Tryd.results96]
  repeat (first | refine walkL_seq ?_ | refine walkL_skip ?_ | refine walkL_block ?_ | (refine walkL_region fun K hK => ?_; simp (maxSteps := 4000000) only [go_sem]; (repeat (first | (refine ⟨_, .lent (hf := c) (hd := rfl) (hr := rfl), ?_⟩; simp (maxSteps := 4000000) only [go_sem]) | (refine ⟨_, .given (hf := c) (hd := rfl) (ha := rfl), ?_⟩; simp (maxSteps := 4000000) only [go_sem]))); refine hK _ ?_; clear hK K) | refine walkL_nil ?_ | refine walkL_ret ?_ | refine walkL_exit ?_ | refine blockA_here ?_ | refine blockA_other rfl ?_ | refine blockA_ret ?_ | refine blockA_normal ?_ | refine thenA_ret ?_ | refine thenA_exit ?_ | refine thenA_normal ?_)
  simp (maxSteps := 4000000) only [go_sem]
theorem f98 (o : DV) (rules : List Rule) (s : List Hour) (hour : Nat) (ha : ∀ x ∈ rules, 0 ≤ x.after ∧ x.after ≤ 48) (hh : hour < s.length) (hs : s.length ≤ 48) (hl : rules.length < 2 ^ 30) :
    Fn Tryd.prog 98 [.sl (hourRows s), .i hour, .ptr [.ptr [o, .sl (ruleRows rules)] 0] 0] (.bool (keepsB everB rules s hour)) := by
  have c := f97 o rules s hour 46 everB f46 ha hh hs hl
  refine fn_walk 10 Tryd.call98 Tryd.func98 rfl (by decide) fun J => ?_
  simp (maxSteps := 4000000) only [go_sem, St.start, Tryd.ntmps98, Tryd.results98]
  repeat (first | refine walkL_seq ?_ | refine walkL_skip ?_ | refine walkL_block ?_ | (refine walkL_region fun K hK => ?_; simp (maxSteps := 4000000) only [go_sem]; (repeat (first | (refine ⟨_, .lent (hf := c) (hd := rfl) (hr := rfl), ?_⟩; simp (maxSteps := 4000000) only [go_sem]) | (refine ⟨_, .given (hf := c) (hd := rfl) (ha := rfl), ?_⟩; simp (maxSteps := 4000000) only [go_sem]))); refine hK _ ?_; clear hK K) | refine walkL_nil ?_ | refine walkL_ret ?_ | refine walkL_exit ?_ | refine blockA_here ?_ | refine blockA_other rfl ?_ | refine blockA_ret ?_ | refine blockA_normal ?_ | refine thenA_ret ?_ | refine thenA_exit ?_ | refine thenA_normal ?_)
  simp (maxSteps := 4000000) only [go_sem]

def openS (rules : List Rule) (S : List (List Hour)) (H : Nat) : List Span := spansQ (fun i => S.all fun s => keepsB alwaysB rules s i) H
def openM (rules : List Rule) (S : List (List Hour)) (H : Nat) : List Span := spansQ (fun i => S.any fun s => keepsB everB rules s i) H

theorem f67 (N : List Int) (S : List (List Hour)) (H : Nat) (rules : List Rule) (ha : ∀ x ∈ rules, 0 ≤ x.after ∧ x.after ≤ 48) (hS : ∀ s ∈ S, s.length = H) (hH : H ≤ 48) (hSl : S.length < 2 ^ 30) (hl : rules.length < 2 ^ 30) :
    Fn Tryd.prog 67 [.ptr [outV N S H, .sl (ruleRows rules)] 0] (.tup [.sl (spanRows (openS rules S H)), .sl (spanRows (openM rules S H))]) := by
  have h41 := f41 N S H 96 [.ptr [.ptr [outV N S H, .sl (ruleRows rules)] 0] 0] (fun s i => keepsB alwaysB rules s i) (fun s hs i hi => f96 _ rules s i ha (by rw [hS s hs]; exact hi) (by rw [hS s hs]; exact hH) hl) hSl (by omega)
  have h44 := f44 N S H 98 [.ptr [.ptr [outV N S H, .sl (ruleRows rules)] 0] 0] (fun s i => keepsB everB rules s i) (fun s hs i hi => f98 _ rules s i ha (by rw [hS s hs]; exact hi) (by rw [hS s hs]; exact hH) hl) hSl (by omega)
  change FnS Tryd.prog 41 _ 28 2 (spanRows (openS rules S H)) at h41
  change FnS Tryd.prog 44 _ 28 2 (spanRows (openM rules S H)) at h44
  obtain ⟨A, hA⟩ : ∃ A, A = openS rules S H := ⟨_, rfl⟩
  obtain ⟨B, hB⟩ : ∃ B, B = openM rules S H := ⟨_, rfl⟩
  rw [← hA] at h41 ⊢
  rw [← hB] at h44 ⊢
  rw [outV] at h41 h44
  refine fn_walk 18 Tryd.call67 Tryd.func67 rfl (by decide) fun J => ?_
  simp (maxSteps := 4000000) only [go_sem, St.start, Tryd.ntmps67, Tryd.results67, outV]
  repeat (first | refine walkL_seq ?_ | refine walkL_skip ?_ | refine walkL_block ?_ | (refine walkL_region fun K hK => ?_; simp (maxSteps := 4000000) only [go_sem]; refine hK _ ?_; clear hK K) | refine walkL_nil ?_ | refine walkL_ret ?_ | refine walkL_exit ?_ | refine blockA_here ?_ | refine blockA_other rfl ?_ | refine blockA_ret ?_ | refine blockA_normal ?_ | refine thenA_ret ?_ | refine thenA_exit ?_ | refine thenA_normal ?_)
  refine walkL_region fun K hK => ?_
  simp (maxSteps := 4000000) only [go_sem]
  refine ⟨_, .lentS (hdst := rfl) (hf := h41) (hd := rfl) (hr := by first | exact rowsFlat_int _ | exact rowsFlat_hour _ | exact rowsFlat_sight _ | exact rowsFlat_sky _ | exact rowsFlat_span _ | exact rowsFlat_bool _) (hfr := rfl), ?_⟩
  simp (maxSteps := 4000000) only [go_sem]
  refine hK _ ?_
  clear hK K
  repeat (first | refine walkL_seq ?_ | refine walkL_skip ?_ | refine walkL_block ?_ | (refine walkL_region fun K hK => ?_; simp (maxSteps := 4000000) only [go_sem]; refine hK _ ?_; clear hK K) | refine walkL_nil ?_ | refine walkL_ret ?_ | refine walkL_exit ?_ | refine blockA_here ?_ | refine blockA_other rfl ?_ | refine blockA_ret ?_ | refine blockA_normal ?_ | refine thenA_ret ?_ | refine thenA_exit ?_ | refine thenA_normal ?_)
  refine walkL_region fun K hK => ?_
  simp (maxSteps := 4000000) only [go_sem]
  refine ⟨_, .lentS (hdst := rfl) (hf := h44) (hd := rfl) (hr := by first | exact rowsFlat_int _ | exact rowsFlat_hour _ | exact rowsFlat_sight _ | exact rowsFlat_sky _ | exact rowsFlat_span _ | exact rowsFlat_bool _) (hfr := rfl), ?_⟩
  simp (maxSteps := 4000000) only [go_sem]
  refine hK _ ?_
  clear hK K
  repeat (first | refine walkL_seq ?_ | refine walkL_skip ?_ | refine walkL_block ?_ | (refine walkL_region fun K hK => ?_; simp (maxSteps := 4000000) only [go_sem]; refine hK _ ?_; clear hK K) | refine walkL_nil ?_ | refine walkL_ret ?_ | refine walkL_exit ?_ | refine blockA_here ?_ | refine blockA_other rfl ?_ | refine blockA_ret ?_ | refine blockA_normal ?_ | refine thenA_ret ?_ | refine thenA_exit ?_ | refine thenA_normal ?_)
  simp (maxSteps := 4000000) only [go_sem]

/-! ### The rules of one path -/

def ofPath (l : List Rule) (p : Int) : List Rule := l.filter fun x => x.path == p

theorem f65 (ro : List DV) (l : List Rule) (p : Int) (hl : l.length < 2 ^ 30) : Fn Tryd.prog 65 [.ptr [.ptr ro 0, .sl (ruleRows l)] 0, .i p] (.ptr [.ptr ro 0, .sl (ruleRows (ofPath l p))] 0) := by
  have h94 := f94 l hl
  have ef : (l.filter fun x => !(x.path != p)) = ofPath l p := by unfold ofPath; congr 1; funext x; simp [bne]
  rcases f93 l 95 [.ptr [.i p] 0] (fun x => x.path != p) (fun x _ => f95 x p) hl with ⟨hno, h93⟩ | ⟨k, X, x1, x2, x3, x4, h93⟩
  · have e : ofPath l p = l := by
      rw [← ef]
      exact List.filter_eq_self.2 fun x hx => by rw [hno x hx]; rfl
    rw [e]
    refine fn_walk 18 Tryd.call65 Tryd.func65 rfl (by decide) fun J => ?_
    simp (maxSteps := 4000000) only [go_sem, St.start, Tryd.ntmps65, Tryd.results65]
    repeat (first | refine walkL_seq ?_ | refine walkL_skip ?_ | refine walkL_block ?_ | (refine walkL_region fun K hK => ?_; simp (maxSteps := 4000000) only [go_sem]; refine hK _ ?_; clear hK K) | refine walkL_nil ?_ | refine walkL_ret ?_ | refine walkL_exit ?_ | refine blockA_here ?_ | refine blockA_other rfl ?_ | refine blockA_ret ?_ | refine blockA_normal ?_ | refine thenA_ret ?_ | refine thenA_exit ?_ | refine thenA_normal ?_)
    refine walkL_drawn (by kernel_rfl) (by kernel_rfl) fun K hK => ?_
    simp (maxSteps := 4000000) only [go_sem]
    refine ⟨_, .fnS (hdst := rfl) (hf := h94) (hd := rfl) (hr := .inr rfl) (hfr := rfl), ?_⟩
    simp (maxSteps := 4000000) only [go_sem]
    refine ⟨_, .inPlaceR (n := 13) (rd := [3]) (hf := h93) (hn := rfl) (hb := rfl) (hla := rfl) (ha := argG_all (by repeat (first | exact trivial | refine And.intro ?_ ?_ | exact argG_ren rfl | exact argG_deep rfl rfl))) (hx := by first | decide | simp [AV.refsAll, AV.refs, AV.refs.AV.refss]) (hrx := by first | decide | simp [AV.refsAll, AV.refs, AV.refs.AV.refss]) (hrd := by decide) (hsh := by intro n hn row hrow k hk; simp at hn; subst hn; simp at hrow; subst hrow; simp [AV.refs, AV.refs.AV.refss] at hk) (hfl := ⟨rfl, by simp only [Blk.flatB, List.all_eq_true]; exact rowsFlat_rule l⟩), ?_⟩
    simp (maxSteps := 4000000) only [go_sem]
    refine ⟨by kernel_rfl, hK _ ?_⟩
    clear hK K
    repeat (first | refine walkL_seq ?_ | refine walkL_skip ?_ | refine walkL_block ?_ | (refine walkL_region fun K hK => ?_; simp (maxSteps := 4000000) only [go_sem]; refine hK _ ?_; clear hK K) | refine walkL_nil ?_ | refine walkL_ret ?_ | refine walkL_exit ?_ | refine blockA_here ?_ | refine blockA_other rfl ?_ | refine blockA_ret ?_ | refine blockA_normal ?_ | refine thenA_ret ?_ | refine thenA_exit ?_ | refine thenA_normal ?_)
    simp (maxSteps := 4000000) only [go_sem]
  · rw [ef] at x1
    have x5 : (List.drop 0 X).take k = ruleRows (ofPath l p) := by simpa using x1
    refine fn_walk 18 Tryd.call65 Tryd.func65 rfl (by decide) fun J => ?_
    simp (maxSteps := 4000000) only [go_sem, St.start, Tryd.ntmps65, Tryd.results65]
    repeat (first | refine walkL_seq ?_ | refine walkL_skip ?_ | refine walkL_block ?_ | (refine walkL_region fun K hK => ?_; simp (maxSteps := 4000000) only [go_sem]; refine hK _ ?_; clear hK K) | refine walkL_nil ?_ | refine walkL_ret ?_ | refine walkL_exit ?_ | refine blockA_here ?_ | refine blockA_other rfl ?_ | refine blockA_ret ?_ | refine blockA_normal ?_ | refine thenA_ret ?_ | refine thenA_exit ?_ | refine thenA_normal ?_)
    refine walkL_drawn (by kernel_rfl) (by kernel_rfl) fun K hK => ?_
    simp (maxSteps := 4000000) only [go_sem]
    refine ⟨_, .fnS (hdst := rfl) (hf := h94) (hd := rfl) (hr := .inr rfl) (hfr := rfl), ?_⟩
    simp (maxSteps := 4000000) only [go_sem]
    refine ⟨_, .inPlaceR (n := 13) (rd := [3]) (hf := h93) (hn := rfl) (hb := rfl) (hla := rfl) (ha := argG_all (by repeat (first | exact trivial | refine And.intro ?_ ?_ | exact argG_ren rfl | exact argG_deep rfl rfl))) (hx := by first | decide | simp [AV.refsAll, AV.refs, AV.refs.AV.refss]) (hrx := by first | decide | simp [AV.refsAll, AV.refs, AV.refs.AV.refss]) (hrd := by decide) (hsh := by intro n hn row hrow k hk; simp at hn; subst hn; simp at hrow; subst hrow; simp [AV.refs, AV.refs.AV.refss] at hk) (hfl := ⟨rfl, x4⟩), ?_⟩
    simp (maxSteps := 4000000) only [go_sem]
    refine ⟨by kernel_rfl, hK _ ?_⟩
    clear hK K
    repeat (first | refine walkL_seq ?_ | refine walkL_skip ?_ | refine walkL_block ?_ | (refine walkL_region fun K hK => ?_; simp (maxSteps := 4000000) only [go_sem]; refine hK _ ?_; clear hK K) | refine walkL_nil ?_ | refine walkL_ret ?_ | refine walkL_exit ?_ | refine blockA_here ?_ | refine blockA_other rfl ?_ | refine blockA_ret ?_ | refine blockA_normal ?_ | refine thenA_ret ?_ | refine thenA_exit ?_ | refine thenA_normal ?_)
    simp (maxSteps := 4000000) only [go_sem, x1, x2, x5, Nat.zero_add]
end Go.Ab
namespace Go.Ab
open Go.RowKit Go.Proofs
set_option maxHeartbeats 8000000
set_option maxRecDepth 20000
attribute [local irreducible] WalkL Walk

/-! ### A net with rules -/

def pathRows (l : List Path) : List (List DV) := l.map Path.row
theorem pathRows_len (l : List Path) : (pathRows l).length = l.length := by simp [pathRows]
theorem pathRows_at {l : List Path} {i : Nat} {x : Path} (h : l[i]? = some x) : (pathRows l)[i]? = some x.row := by simp [pathRows, h]
theorem pathRows_head (l : List Path) : headIs 8 (pathRows l) = true := by cases l <;> rfl
theorem pathRows_set (l : List Path) (k : Nat) (x : Path) : (pathRows l).set k x.row = pathRows (l.set k x) := by simp [pathRows, List.map_set]
attribute [go_sem] pathRows_len pathRows_head
theorem Path.row_eq (p : Path) : p.row = [.i p.frm, .i p.to, .i p.grade, .i p.time.lo, .i p.time.hi, .i p.snow.lo, .i p.snow.hi, .sl (spanRows p.opens)] := rfl
theorem Net.cells_eq (n : Net) : n.cells = [.i n.places, .sl (pathRows n.paths)] := rfl

theorem f64 (l : List Path) (hl : l.length < 2 ^ 30) : FnS Tryd.prog 64 [.sl (pathRows l)] 95 8 (pathRows l) := by
  have h1 : l.length ≤ 549755813888 := by omega
  have h2 : 0 + l.length ≤ 549755813888 := by omega
  cases l with
  | nil =>
    have e0 : pathRows [] = [] := rfl
    have e1 : ([] : List (List DV)).isEmpty = true := rfl
    rw [e0]
    refine fnS_walk 8 Tryd.call64 Tryd.func64 rfl (by decide) fun J => ?_
    simp (maxSteps := 4000000) only [go_sem, St.start, Tryd.ntmps64, Tryd.results64]
    repeat (first | refine walkL_seq ?_ | refine walkL_skip ?_ | refine walkL_block ?_ | (refine walkL_region fun K hK => ?_; simp (maxSteps := 4000000) only [go_sem, e1]; refine hK _ ?_; clear hK K) | refine walkL_nil ?_ | refine walkL_ret ?_ | refine walkL_exit ?_ | refine blockA_here ?_ | refine blockA_other rfl ?_ | refine blockA_ret ?_ | refine blockA_normal ?_ | refine thenA_ret ?_ | refine thenA_exit ?_ | refine thenA_normal ?_)
    refine walkL_any rfl ?_ ?_
    · repeat (first | refine walkL_seq ?_ | refine walkL_skip ?_ | refine walkL_block ?_ | (refine walkL_region fun K hK => ?_; simp (maxSteps := 4000000) only [go_sem]; refine hK _ ?_; clear hK K) | refine walkL_nil ?_ | refine walkL_ret ?_ | refine walkL_exit ?_ | refine blockA_here ?_ | refine blockA_other rfl ?_ | refine blockA_ret ?_ | refine blockA_normal ?_ | refine thenA_ret ?_ | refine thenA_exit ?_ | refine thenA_normal ?_)
      simp (maxSteps := 4000000) only [go_sem]
    · repeat (first | refine walkL_seq ?_ | refine walkL_skip ?_ | refine walkL_block ?_ | (refine walkL_region fun K hK => ?_; simp (maxSteps := 4000000) only [go_sem, List.nil_append, List.length_nil]; refine hK _ ?_; clear hK K) | refine walkL_nil ?_ | refine walkL_ret ?_ | refine walkL_exit ?_ | refine blockA_here ?_ | refine blockA_other rfl ?_ | refine blockA_ret ?_ | refine blockA_normal ?_ | refine thenA_ret ?_ | refine thenA_exit ?_ | refine thenA_normal ?_)
      simp (maxSteps := 4000000) only [go_sem]
  | cons a l =>
    have hne : (pathRows (a :: l)).isEmpty = false := rfl
    obtain ⟨L, hL⟩ : ∃ L, L = a :: l := ⟨_, rfl⟩
    rw [← hL] at h1 h2 hne ⊢
    refine fnS_walk 8 Tryd.call64 Tryd.func64 rfl (by decide) fun J => ?_
    simp (maxSteps := 4000000) only [go_sem, St.start, Tryd.ntmps64, Tryd.results64]
    repeat (first | refine walkL_true rfl ?_ | refine walkL_false rfl ?_ | refine walkL_seq ?_ | refine walkL_skip ?_ | refine walkL_block ?_ | (refine walkL_region fun K hK => ?_; simp (maxSteps := 4000000) only [go_sem, hne]; refine hK _ ?_; clear hK K) | refine walkL_nil ?_ | refine walkL_ret ?_ | refine walkL_exit ?_ | refine blockA_here ?_ | refine blockA_other rfl ?_ | refine blockA_ret ?_ | refine blockA_normal ?_ | refine thenA_ret ?_ | refine thenA_exit ?_ | refine thenA_normal ?_)
    repeat (first | refine walkL_seq ?_ | refine walkL_skip ?_ | refine walkL_block ?_ | (refine walkL_region fun K hK => ?_; simp (maxSteps := 4000000) only [go_sem, h1, h2, List.nil_append, List.length_nil]; refine hK _ ?_; clear hK K) | refine walkL_nil ?_ | refine walkL_ret ?_ | refine walkL_exit ?_ | refine blockA_here ?_ | refine blockA_other rfl ?_ | refine blockA_ret ?_ | refine blockA_normal ?_ | refine thenA_ret ?_ | refine thenA_exit ?_ | refine thenA_normal ?_)
    simp (maxSteps := 4000000) only [go_sem]

def inSpans (l : List Span) (n : Int) : Bool := l.any fun s => withinB n s.lo s.hi

theorem f100 (s : Span) (n : Int) : Fn Tryd.prog 100 [.agg s.row, .ptr [.i n] 0] (.bool (withinB n s.lo s.hi)) := by
  have h := f52 n s.lo s.hi
  refine fn_walk 10 Tryd.call100 Tryd.func100 rfl (by decide) fun J => ?_
  simp (maxSteps := 4000000) only [go_sem, St.start, Tryd.ntmps100, Tryd.results100, Span.row]
  repeat (first | refine walkL_seq ?_ | refine walkL_skip ?_ | refine walkL_block ?_ | (refine walkL_region fun K hK => ?_; simp (maxSteps := 4000000) only [go_sem]; (repeat (first | (refine ⟨_, .lent (hf := h) (hd := rfl) (hr := rfl), ?_⟩; simp (maxSteps := 4000000) only [go_sem]) | (refine ⟨_, .given (hf := h) (hd := rfl) (ha := rfl), ?_⟩; simp (maxSteps := 4000000) only [go_sem]))); refine hK _ ?_; clear hK K) | refine walkL_nil ?_ | refine walkL_ret ?_ | refine walkL_exit ?_ | refine blockA_here ?_ | refine blockA_other rfl ?_ | refine blockA_ret ?_ | refine blockA_normal ?_ | refine thenA_ret ?_ | refine thenA_exit ?_ | refine thenA_normal ?_)
  simp (maxSteps := 4000000) only [go_sem]

theorem f70 (l : List Span) (n : Int) (hl : l.length < 2 ^ 30) : Fn Tryd.prog 70 [.sl (spanRows l), .i n] (.bool (inSpans l n)) := by
  have h : Fn Tryd.prog 99 [.sl (spanRows l), .fn 100 [.ptr [.i n] 0]] (.bool (inSpans l n)) := f99 l 100 [.ptr [.i n] 0] (fun s => withinB n s.lo s.hi) (fun s _ => f100 s n) (by omega)
  refine fn_walk 8 Tryd.call70 Tryd.func70 rfl (by decide) fun J => ?_
  simp (maxSteps := 4000000) only [go_sem, St.start, Tryd.ntmps70, Tryd.results70]
  repeat (first | refine walkL_seq ?_ | refine walkL_skip ?_ | refine walkL_block ?_ | (refine walkL_region fun K hK => ?_; simp (maxSteps := 4000000) only [go_sem]; (repeat (first | (refine ⟨_, .lent (hf := h) (hd := rfl) (hr := rfl), ?_⟩; simp (maxSteps := 4000000) only [go_sem]) | (refine ⟨_, .given (hf := h) (hd := rfl) (ha := rfl), ?_⟩; simp (maxSteps := 4000000) only [go_sem]))); refine hK _ ?_; clear hK K) | refine walkL_nil ?_ | refine walkL_ret ?_ | refine walkL_exit ?_ | refine blockA_here ?_ | refine blockA_other rfl ?_ | refine blockA_ret ?_ | refine blockA_normal ?_ | refine thenA_ret ?_ | refine thenA_exit ?_ | refine thenA_normal ?_)
  simp (maxSteps := 4000000) only [go_sem]

theorem f69 (opens sure : List Span) (t : Nat) (ht : t < 2 ^ 30) (ho : opens.length < 2 ^ 30) (hs : sure.length < 2 ^ 30) : Fn Tryd.prog 69 [.i t, .ptr [.sl (spanRows opens)] 0, .ptr [.sl (spanRows sure)] 0] (.bool (inSpans opens t && inSpans sure ((t / 60 : Nat) : Int))) := by
  have h1 := f70 opens t ho
  have h2 := f70 sure ((t / 60 : Nat) : Int) hs
  have w : IntKind.i64.wrap ((t : Int).tdiv 60) = ((t / 60 : Nat) : Int) := by
    rw [Int.tdiv_eq_ediv_of_nonneg (by omega), wr_small (by omega)]
    omega
  obtain ⟨a, ea⟩ : ∃ a, a = inSpans opens t := ⟨_, rfl⟩
  obtain ⟨b, eb⟩ : ∃ b, b = inSpans sure ((t / 60 : Nat) : Int) := ⟨_, rfl⟩
  rw [← ea] at h1 ⊢
  rw [← eb] at h2 ⊢
  cases a
  all_goals
    refine fn_walk 14 Tryd.call69 Tryd.func69 rfl (by decide) fun J => ?_
    simp (maxSteps := 4000000) only [go_sem, St.start, Tryd.ntmps69, Tryd.results69]
    repeat (first | refine walkL_true rfl ?_ | refine walkL_false rfl ?_ | refine walkL_seq ?_ | refine walkL_skip ?_ | refine walkL_block ?_ | (refine walkL_region fun K hK => ?_; simp (maxSteps := 4000000) only [go_sem, w]; (repeat (first | (refine ⟨_, .lent (hf := h1) (hd := rfl) (hr := rfl), ?_⟩; simp (maxSteps := 4000000) only [go_sem, w]) | (refine ⟨_, .lent (hf := h2) (hd := rfl) (hr := rfl), ?_⟩; simp (maxSteps := 4000000) only [go_sem, w]) | (refine ⟨_, .given (hf := h1) (hd := rfl) (ha := rfl), ?_⟩; simp (maxSteps := 4000000) only [go_sem, w]) | (refine ⟨_, .given (hf := h2) (hd := rfl) (ha := rfl), ?_⟩; simp (maxSteps := 4000000) only [go_sem, w]))); refine hK _ ?_; clear hK K) | refine walkL_nil ?_ | refine walkL_ret ?_ | refine walkL_exit ?_ | refine blockA_here ?_ | refine blockA_other rfl ?_ | refine blockA_ret ?_ | refine blockA_normal ?_ | refine thenA_ret ?_ | refine thenA_exit ?_ | refine thenA_normal ?_)
    simp (maxSteps := 4000000) only [go_sem]

def wrongR (m : Int) (x : Rule) : Bool := !withinB x.path 0 (m - 1) || (!withinB x.after 0 48 || !limB x.lim)
def badRules (n : Net) (l : List Rule) : Bool := decide ((l.length : Int) > 12) || l.any (wrongR n.paths.length)

theorem f91 (n : Net) (x : Rule) (hn : n.paths.length < 2 ^ 30) : Fn Tryd.prog 91 [.agg x.row, .ptr n.cells 0] (.bool (wrongR n.paths.length x)) := by
  have h1 := f52 x.path 0 ((n.paths.length : Int) - 1)
  have h2 := f52 x.after 0 48
  have h3 := f77 x.lim
  have w : IntKind.i64.wrap ((n.paths.length : Int) - 1) = (n.paths.length : Int) - 1 := wr_small (by omega)
  obtain ⟨b1, e1⟩ : ∃ b, b = withinB x.path 0 ((n.paths.length : Int) - 1) := ⟨_, rfl⟩
  obtain ⟨b2, e2⟩ : ∃ b, b = withinB x.after 0 48 := ⟨_, rfl⟩
  obtain ⟨b3, e3⟩ : ∃ b, b = limB x.lim := ⟨_, rfl⟩
  rw [wrongR, ← e1, ← e2, ← e3]
  rw [← e1] at h1
  rw [← e2] at h2
  rw [← e3] at h3
  rw [Limits.row] at h3
  cases b1 <;> cases b2
  all_goals
    refine fn_walk 25 Tryd.call91 Tryd.func91 rfl (by decide) fun J => ?_
    simp (maxSteps := 4000000) only [go_sem, St.start, Tryd.ntmps91, Tryd.results91, Rule.row, Net.cells_eq]
    repeat (first | refine walkL_true rfl ?_ | refine walkL_false rfl ?_ | refine walkL_seq ?_ | refine walkL_skip ?_ | refine walkL_block ?_ | (refine walkL_region fun K hK => ?_; simp (maxSteps := 4000000) only [go_sem, w]; (repeat (first | (refine ⟨_, .lent (hf := h1) (hd := rfl) (hr := rfl), ?_⟩; simp (maxSteps := 4000000) only [go_sem, w]) | (refine ⟨_, .lent (hf := h2) (hd := rfl) (hr := rfl), ?_⟩; simp (maxSteps := 4000000) only [go_sem, w]) | (refine ⟨_, .lent (hf := h3) (hd := rfl) (hr := rfl), ?_⟩; simp (maxSteps := 4000000) only [go_sem, w]) | (refine ⟨_, .given (hf := h1) (hd := rfl) (ha := rfl), ?_⟩; simp (maxSteps := 4000000) only [go_sem, w]) | (refine ⟨_, .given (hf := h2) (hd := rfl) (ha := rfl), ?_⟩; simp (maxSteps := 4000000) only [go_sem, w]) | (refine ⟨_, .given (hf := h3) (hd := rfl) (ha := rfl), ?_⟩; simp (maxSteps := 4000000) only [go_sem, w]))); refine hK _ ?_; clear hK K) | refine walkL_nil ?_ | refine walkL_ret ?_ | refine walkL_exit ?_ | refine blockA_here ?_ | refine blockA_other rfl ?_ | refine blockA_ret ?_ | refine blockA_normal ?_ | refine thenA_ret ?_ | refine thenA_exit ?_ | refine thenA_normal ?_)
    simp (maxSteps := 4000000) only [go_sem]

/-- The error of a net, rules, a forecast and sights, and a number that is that of a path or -1. -/
def ruledE (n : Net) (rules : List Rule) (F : List (List Hour)) (seen : List Sight) (p : Int) : Int :=
  if foreF F ≠ 0 then foreF F else if checkF n ≠ 0 then checkF n else lookF F seen (if badRules n rules then 53 else 0) (withinB p (-1) ((n.paths.length : Int) - 1))

theorem look_vals {F : List (List Hour)} {seen : List Sight} {err : Int} {told : Bool} (h : foreF F = 0) : lookF F seen err told = 0 ∨ lookF F seen err told ≠ 0 := Classical.em _

theorem f63 (n : Net) (rules : List Rule) (F : List (List Hour)) (seen : List Sight) (p : Int) (hn : n.Small) (hr : rules.length < 2 ^ 30) (hs : ForeSmall F) (hsl : seen.length < 2 ^ 30) :
    Fn Tryd.prog 63 [.agg n.cells, .sl (ruleRows rules), .agg [.sl (scenRows F)], .sl (sightRows seen), .i p]
      (.tup [if ruledE n rules F seen p = 0 then .ptr [lookV F seen, .sl (ruleRows (ofPath rules p))] 0 else .nilptr, .i (ruledE n rules F seen p)]) := by
  have h23 := f23 F hs
  have h90 := f90 n hn
  have hnp := hn.paths
  have w : IntKind.i64.wrap ((n.paths.length : Int) - 1) = (n.paths.length : Int) - 1 := wr_small (by omega)
  rw [Net.cells_eq] at h90
  obtain ⟨fe, hfe⟩ : ∃ e, e = foreF F := ⟨_, rfl⟩
  obtain ⟨ce, hce⟩ : ∃ e, e = checkF n := ⟨_, rfl⟩
  obtain ⟨E, hE⟩ : ∃ E, E = ruledE n rules F seen p := ⟨_, rfl⟩
  rw [← hE]
  rw [← hfe] at h23
  rw [← hce] at h90
  by_cases q1 : fe = 0
  · by_cases q2 : ce = 0
    · have hE2 : E = lookF F seen (if badRules n rules then 53 else 0) (withinB p (-1) ((n.paths.length : Int) - 1)) := by
        rw [hE]; unfold ruledE; rw [← hfe, ← hce, if_neg (fun h => h q1), if_neg (fun h => h q2)]
      have b1 : (fe != 0) = false := by simp [q1]
      have b2 : (ce != 0) = false := by simp [q2]
      have h52 := f52 p (-1) ((n.paths.length : Int) - 1)
      have h92 : Fn Tryd.prog 92 [.sl (ruleRows rules), .fn 91 [.ptr n.cells 0]] (.bool (rules.any (wrongR n.paths.length))) := f92 rules 91 [.ptr n.cells 0] (wrongR n.paths.length) (fun x _ => f91 n x hnp) (by omega)
      have h65 := f65 [.sl (intRows (numsOf (possL F seen))), .sl (scenRows (scensOf (possL F seen))), .i (hd0 F).length] rules p hr
      have h39 := f39 F seen (if badRules n rules then 53 else 0) (withinB p (-1) ((n.paths.length : Int) - 1)) hs hsl
      rw [← hE2] at h39
      obtain ⟨t, ht⟩ : ∃ t, t = withinB p (-1) ((n.paths.length : Int) - 1) := ⟨_, rfl⟩
      rw [← ht] at h52 h39
      obtain ⟨a, ha⟩ : ∃ a, a = rules.any (wrongR n.paths.length) := ⟨_, rfl⟩
      rw [← ha] at h92
      have hbad : badRules n rules = (decide ((rules.length : Int) > 12) || a) := by rw [ha]; rfl
      rw [hbad] at h39
      rw [Net.cells_eq] at h92
      obtain ⟨R, hR⟩ : ∃ R, R = ofPath rules p := ⟨_, rfl⟩
      rw [← hR] at h65 ⊢
      clear hE hE2
      cases q3 : decide ((rules.length : Int) > 12) <;> cases a
      all_goals
        rw [q3] at h39
        simp only [Bool.false_or, Bool.true_or, Bool.or_false, Bool.or_true, Bool.false_eq_true, if_false, if_true] at h39
        by_cases q4 : E = 0
        · have b4 : (E != 0) = false := by simp [q4]
          rw [if_pos q4] at h39 ⊢
          rw [lookV] at h39 ⊢
          refine fn_walk 61 Tryd.call63 Tryd.func63 rfl (by decide) fun J => ?_
          simp (maxSteps := 4000000) only [go_sem, St.start, Tryd.ntmps63, Tryd.results63, Net.cells_eq]
          repeat (first | refine walkL_true rfl ?_ | refine walkL_false rfl ?_ | refine walkL_seq ?_ | refine walkL_skip ?_ | refine walkL_block ?_ | (refine walkL_region fun K hK => ?_; simp (maxSteps := 4000000) only [go_sem, b1, b2, b4, w, q3]; (repeat (first | (refine ⟨_, .lent (hf := h23) (hd := rfl) (hr := rfl), ?_⟩; simp (maxSteps := 4000000) only [go_sem, b1, b2, b4, w, q3]) | (refine ⟨_, .lent (hf := h90) (hd := rfl) (hr := rfl), ?_⟩; simp (maxSteps := 4000000) only [go_sem, b1, b2, b4, w, q3]) | (refine ⟨_, .lent (hf := h52) (hd := rfl) (hr := rfl), ?_⟩; simp (maxSteps := 4000000) only [go_sem, b1, b2, b4, w, q3]) | (refine ⟨_, .lent (hf := h92) (hd := rfl) (hr := rfl), ?_⟩; simp (maxSteps := 4000000) only [go_sem, b1, b2, b4, w, q3]) | (refine ⟨_, .lent (hf := h39) (hd := rfl) (hr := rfl), ?_⟩; simp (maxSteps := 4000000) only [go_sem, b1, b2, b4, w, q3]) | (refine ⟨_, .lent (hf := h65) (hd := rfl) (hr := rfl), ?_⟩; simp (maxSteps := 4000000) only [go_sem, b1, b2, b4, w, q3]) | (refine ⟨_, .given (hf := h23) (hd := rfl) (ha := rfl), ?_⟩; simp (maxSteps := 4000000) only [go_sem, b1, b2, b4, w, q3]) | (refine ⟨_, .given (hf := h90) (hd := rfl) (ha := rfl), ?_⟩; simp (maxSteps := 4000000) only [go_sem, b1, b2, b4, w, q3]) | (refine ⟨_, .given (hf := h52) (hd := rfl) (ha := rfl), ?_⟩; simp (maxSteps := 4000000) only [go_sem, b1, b2, b4, w, q3]) | (refine ⟨_, .given (hf := h92) (hd := rfl) (ha := rfl), ?_⟩; simp (maxSteps := 4000000) only [go_sem, b1, b2, b4, w, q3]) | (refine ⟨_, .given (hf := h39) (hd := rfl) (ha := rfl), ?_⟩; simp (maxSteps := 4000000) only [go_sem, b1, b2, b4, w, q3]) | (refine ⟨_, .given (hf := h65) (hd := rfl) (ha := rfl), ?_⟩; simp (maxSteps := 4000000) only [go_sem, b1, b2, b4, w, q3]))); refine hK _ ?_; clear hK K) | refine walkL_nil ?_ | refine walkL_ret ?_ | refine walkL_exit ?_ | refine blockA_here ?_ | refine blockA_other rfl ?_ | refine blockA_ret ?_ | refine blockA_normal ?_ | refine thenA_ret ?_ | refine thenA_exit ?_ | refine thenA_normal ?_)
          simp (maxSteps := 4000000) only [go_sem, q4]
        · have b4 : (E != 0) = true := by simpa using q4
          rw [if_neg q4] at h39 ⊢
          refine fn_walk 61 Tryd.call63 Tryd.func63 rfl (by decide) fun J => ?_
          simp (maxSteps := 4000000) only [go_sem, St.start, Tryd.ntmps63, Tryd.results63, Net.cells_eq]
          repeat (first | refine walkL_true rfl ?_ | refine walkL_false rfl ?_ | refine walkL_seq ?_ | refine walkL_skip ?_ | refine walkL_block ?_ | (refine walkL_region fun K hK => ?_; simp (maxSteps := 4000000) only [go_sem, b1, b2, b4, w, q3]; (repeat (first | (refine ⟨_, .lent (hf := h23) (hd := rfl) (hr := rfl), ?_⟩; simp (maxSteps := 4000000) only [go_sem, b1, b2, b4, w, q3]) | (refine ⟨_, .lent (hf := h90) (hd := rfl) (hr := rfl), ?_⟩; simp (maxSteps := 4000000) only [go_sem, b1, b2, b4, w, q3]) | (refine ⟨_, .lent (hf := h52) (hd := rfl) (hr := rfl), ?_⟩; simp (maxSteps := 4000000) only [go_sem, b1, b2, b4, w, q3]) | (refine ⟨_, .lent (hf := h92) (hd := rfl) (hr := rfl), ?_⟩; simp (maxSteps := 4000000) only [go_sem, b1, b2, b4, w, q3]) | (refine ⟨_, .lent (hf := h39) (hd := rfl) (hr := rfl), ?_⟩; simp (maxSteps := 4000000) only [go_sem, b1, b2, b4, w, q3]) | (refine ⟨_, .given (hf := h23) (hd := rfl) (ha := rfl), ?_⟩; simp (maxSteps := 4000000) only [go_sem, b1, b2, b4, w, q3]) | (refine ⟨_, .given (hf := h90) (hd := rfl) (ha := rfl), ?_⟩; simp (maxSteps := 4000000) only [go_sem, b1, b2, b4, w, q3]) | (refine ⟨_, .given (hf := h52) (hd := rfl) (ha := rfl), ?_⟩; simp (maxSteps := 4000000) only [go_sem, b1, b2, b4, w, q3]) | (refine ⟨_, .given (hf := h92) (hd := rfl) (ha := rfl), ?_⟩; simp (maxSteps := 4000000) only [go_sem, b1, b2, b4, w, q3]) | (refine ⟨_, .given (hf := h39) (hd := rfl) (ha := rfl), ?_⟩; simp (maxSteps := 4000000) only [go_sem, b1, b2, b4, w, q3]))); refine hK _ ?_; clear hK K) | refine walkL_nil ?_ | refine walkL_ret ?_ | refine walkL_exit ?_ | refine blockA_here ?_ | refine blockA_other rfl ?_ | refine blockA_ret ?_ | refine blockA_normal ?_ | refine thenA_ret ?_ | refine thenA_exit ?_ | refine thenA_normal ?_)
          simp (maxSteps := 4000000) only [go_sem]
    · have hE2 : E = ce := by
        rw [hE]; unfold ruledE; rw [← hfe, ← hce, if_neg (fun h => h q1), if_pos q2]
      rw [hE2, if_neg q2]
      have b1 : (fe != 0) = false := by simp [q1]
      have b2 : (ce != 0) = true := by simpa using q2
      refine fn_walk 61 Tryd.call63 Tryd.func63 rfl (by decide) fun J => ?_
      simp (maxSteps := 4000000) only [go_sem, St.start, Tryd.ntmps63, Tryd.results63, Net.cells_eq]
      repeat (first | refine walkL_true rfl ?_ | refine walkL_false rfl ?_ | refine walkL_seq ?_ | refine walkL_skip ?_ | refine walkL_block ?_ | (refine walkL_region fun K hK => ?_; simp (maxSteps := 4000000) only [go_sem, b1, b2]; (repeat (first | (refine ⟨_, .lent (hf := h23) (hd := rfl) (hr := rfl), ?_⟩; simp (maxSteps := 4000000) only [go_sem, b1, b2]) | (refine ⟨_, .lent (hf := h90) (hd := rfl) (hr := rfl), ?_⟩; simp (maxSteps := 4000000) only [go_sem, b1, b2]) | (refine ⟨_, .given (hf := h23) (hd := rfl) (ha := rfl), ?_⟩; simp (maxSteps := 4000000) only [go_sem, b1, b2]) | (refine ⟨_, .given (hf := h90) (hd := rfl) (ha := rfl), ?_⟩; simp (maxSteps := 4000000) only [go_sem, b1, b2]))); refine hK _ ?_; clear hK K) | refine walkL_nil ?_ | refine walkL_ret ?_ | refine walkL_exit ?_ | refine blockA_here ?_ | refine blockA_other rfl ?_ | refine blockA_ret ?_ | refine blockA_normal ?_ | refine thenA_ret ?_ | refine thenA_exit ?_ | refine thenA_normal ?_)
      simp (maxSteps := 4000000) only [go_sem]
  · have hE2 : E = fe := by
      rw [hE]; unfold ruledE; rw [← hfe, if_pos q1]
    rw [hE2, if_neg q1]
    have b1 : (fe != 0) = true := by simpa using q1
    refine fn_walk 61 Tryd.call63 Tryd.func63 rfl (by decide) fun J => ?_
    simp (maxSteps := 4000000) only [go_sem, St.start, Tryd.ntmps63, Tryd.results63, Net.cells_eq]
    repeat (first | refine walkL_true rfl ?_ | refine walkL_false rfl ?_ | refine walkL_seq ?_ | refine walkL_skip ?_ | refine walkL_block ?_ | (refine walkL_region fun K hK => ?_; simp (maxSteps := 4000000) only [go_sem, b1]; (repeat (first | (refine ⟨_, .lent (hf := h23) (hd := rfl) (hr := rfl), ?_⟩; simp (maxSteps := 4000000) only [go_sem, b1]) | (refine ⟨_, .given (hf := h23) (hd := rfl) (ha := rfl), ?_⟩; simp (maxSteps := 4000000) only [go_sem, b1]))); refine hK _ ?_; clear hK K) | refine walkL_nil ?_ | refine walkL_ret ?_ | refine walkL_exit ?_ | refine blockA_here ?_ | refine blockA_other rfl ?_ | refine blockA_ret ?_ | refine blockA_normal ?_ | refine thenA_ret ?_ | refine thenA_exit ?_ | refine thenA_normal ?_)
    simp (maxSteps := 4000000) only [go_sem]
end Go.Ab
namespace Go.Ab
open Go.RowKit Go.Proofs
set_option maxHeartbeats 16000000
set_option maxRecDepth 20000
attribute [local irreducible] WalkL Walk

/-! ### Safe -/

def updI {α : Type} (f : Nat → α → α) (l : List α) (k : Nat) : List α := (l.take k).mapIdx f ++ l.drop k
theorem updI_len {α : Type} (f : Nat → α → α) (l : List α) (k : Nat) : (updI f l k).length = l.length := by simp [updI]; omega
theorem updI_zero {α : Type} (f : Nat → α → α) (l : List α) : updI f l 0 = l := by simp [updI]
theorem updI_all {α : Type} (f : Nat → α → α) (l : List α) : updI f l l.length = l.mapIdx f := by simp [updI]
theorem updI_get {α : Type} (f : Nat → α → α) {l : List α} {k : Nat} {x : α} (h : l[k]? = some x) : (updI f l k)[k]? = some x := by
  have hk := (List.getElem?_eq_some_iff.1 h).1
  have h1 : ((l.take k).mapIdx f).length = k := by simp; omega
  unfold updI
  rw [List.getElem?_append_right (by omega), h1, Nat.sub_self, drop_get h]
  rfl
theorem updI_set {α : Type} (f : Nat → α → α) {l : List α} {k : Nat} {x : α} (h : l[k]? = some x) : (updI f l k).set k (f k x) = updI f l (k + 1) := by
  have hk := (List.getElem?_eq_some_iff.1 h).1
  have h1 : ((l.take k).mapIdx f).length = k := by simp; omega
  have h2 : (l.take k).length = k := by simp; omega
  unfold updI
  rw [List.set_append_right _ _ (by omega), h1, Nat.sub_self, drop_get h, List.set_cons_zero, List.take_add_one, h, Option.toList_some, List.mapIdx_append, h2]
  simp

def safeOpens (opens sure : List Span) : List Span := (spansQ (fun t => inSpans opens t && inSpans sure ((t / 60 : Nat) : Int)) 2881).take 6
def safeP (rules : List Rule) (S : List (List Hour)) (H : Nat) (i : Nat) (p : Path) : Path :=
  if ((ofPath rules i).length : Int) == 0 then p else { p with opens := safeOpens p.opens (openS (ofPath rules i) S H) }
def safeF (n : Net) (rules : List Rule) (F : List (List Hour)) (seen : List Sight) : Net × Int :=
  if ruledE n rules F seen (-1) = 0 then (⟨n.places, n.paths.mapIdx (safeP rules (scensOf (possL F seen)) (hd0 F).length)⟩, 0) else (⟨0, []⟩, ruledE n rules F seen (-1))

theorem ruled_all {n : Net} {rules : List Rule} {F : List (List Hour)} {seen : List Sight} {p : Int} (h : ruledE n rules F seen p = 0) :
    ForeGood F ∧ sightsB (hd0 F).length seen = true ∧ possL F seen ≠ [] ∧ badNet n = false ∧ badRules n rules = false ∧ withinB p (-1) ((n.paths.length : Int) - 1) = true := by
  unfold ruledE at h
  split at h
  · rename_i h1; exact absurd h h1
  · split at h
    · rename_i h1; exact absurd h h1
    · rename_i h2
      obtain ⟨a, b, c, d, e⟩ := look_all h
      refine ⟨a, b, c, ?_, ?_, e⟩
      · cases hb : badNet n with
        | false => rfl
        | true => simp [checkF, hb] at h2
      · cases hb : badRules n rules with
        | false => rfl
        | true => rw [hb, if_pos rfl] at d; cases d

theorem rules_ok {n : Net} {rules : List Rule} (h : badRules n rules = false) : rules.length ≤ 12 ∧ ∀ x ∈ rules, (0 ≤ x.path ∧ x.path ≤ (n.paths.length : Int) - 1) ∧ (0 ≤ x.after ∧ x.after ≤ 48) ∧ limB x.lim = true := by
  unfold badRules at h
  simp only [Bool.or_eq_false_iff, decide_eq_false_iff_not] at h
  refine ⟨by have := h.1; omega, fun x hx => ?_⟩
  have h2 := h.2
  rw [List.any_eq_false] at h2
  have := h2 x hx
  unfold wrongR at this
  simp only [Bool.or_eq_true, Bool.not_eq_true', not_or, Bool.not_eq_false] at this
  exact ⟨within_iff.1 this.1, within_iff.1 this.2.1, this.2.2⟩

theorem ofPath_sub {rules : List Rule} {p : Int} : ∀ x ∈ ofPath rules p, x ∈ rules := fun x hx => (List.mem_filter.1 hx).1
theorem ofPath_len {rules : List Rule} {p : Int} : (ofPath rules p).length ≤ rules.length := List.length_filter_le _ _

theorem f37 (n : Net) (rules : List Rule) (F : List (List Hour)) (seen : List Sight) (hn : n.Small) (hr : rules.length < 2 ^ 30) (hs : ForeSmall F) (hsl : seen.length < 2 ^ 30) :
    Fn Tryd.prog 37 [.agg n.cells, .sl (ruleRows rules), .agg [.sl (scenRows F)], .sl (sightRows seen)] (.tup [.agg (safeF n rules F seen).1.cells, .i (safeF n rules F seen).2]) := by
  have h63 := f63 n rules F seen (-1) hn hr hs hsl
  unfold safeF
  by_cases h0 : ruledE n rules F seen (-1) = 0
  · obtain ⟨hg, hsi, hne, hbn, hbr, _⟩ := ruled_all h0
    obtain ⟨hrl, hro⟩ := rules_ok hbr
    rw [if_pos h0]
    rw [if_pos h0, h0, lookV_out] at h63
    have hall := scens_all (seen := seen) hg
    have hSl := scens_short (F := F) (seen := seen)
    have hH := hg.hours
    have hF := hg.scen
    have hpl := hn.paths
    obtain ⟨N, hN⟩ : ∃ N, N = numsOf (possL F seen) := ⟨_, rfl⟩
    obtain ⟨S, hS⟩ : ∃ S, S = scensOf (possL F seen) := ⟨_, rfl⟩
    obtain ⟨H, hHe⟩ : ∃ H, H = (hd0 F).length := ⟨_, rfl⟩
    rw [← hN, ← hS, ← hHe] at h63
    rw [← hS, ← hHe]
    rw [← hS] at hall hSl
    rw [← hHe] at hall hH
    have h64 := f64 n.paths hpl
    have h65 := fun p => f65 [.sl (intRows N), .sl (scenRows S), .i H] rules p hr
    have h67 := fun p => f67 N S H (ofPath rules p) (fun x hx => (hro x (ofPath_sub x hx)).2.1) hall (by omega) (by omega) (by have := ofPath_len (rules := rules) (p := p); omega)
    rw [outV] at h63
    simp only [outV] at h67
    rw [Net.cells_eq] at h63
    obtain ⟨f, hf⟩ : ∃ f, f = safeP rules S H := ⟨_, rfl⟩
    rw [← hf, Net.cells_eq]
    refine fn_walk 100 Tryd.call37 Tryd.func37 rfl (by decide) fun J => ?_
    simp (maxSteps := 4000000) only [go_sem, St.start, Tryd.ntmps37, Tryd.results37, Net.cells_eq]
    repeat (first | refine walkL_true rfl ?_ | refine walkL_false rfl ?_ | refine walkL_seq ?_ | refine walkL_skip ?_ | refine walkL_block ?_ | (refine walkL_region fun K hK => ?_; simp (maxSteps := 4000000) only [go_sem]; (repeat (first | (refine ⟨_, .lent (hf := h63) (hd := rfl) (hr := rfl), ?_⟩; simp (maxSteps := 4000000) only [go_sem]) | (refine ⟨_, .given (hf := h63) (hd := rfl) (ha := rfl), ?_⟩; simp (maxSteps := 4000000) only [go_sem]))); refine hK _ ?_; clear hK K) | refine walkL_nil ?_ | refine walkL_ret ?_ | refine walkL_exit ?_ | refine blockA_here ?_ | refine blockA_other rfl ?_ | refine blockA_ret ?_ | refine blockA_normal ?_ | refine thenA_ret ?_ | refine thenA_exit ?_ | refine thenA_normal ?_)
    refine walkL_drawn (by kernel_rfl) (by kernel_rfl) fun K hK => ?_
    simp (maxSteps := 4000000) only [go_sem]
    refine ⟨_, .fnS (hdst := rfl) (hf := h64) (hd := rfl) (hr := .inr rfl) (hfr := rfl), ?_⟩
    simp (maxSteps := 4000000) only [go_sem]
    refine ⟨by kernel_rfl, hK _ ?_⟩
    clear hK K
    repeat (first | refine walkL_true rfl ?_ | refine walkL_false rfl ?_ | refine walkL_seq ?_ | refine walkL_skip ?_ | refine walkL_block ?_ | (refine walkL_region fun K hK => ?_; simp (maxSteps := 4000000) only [go_sem]; refine hK _ ?_; clear hK K) | refine walkL_nil ?_ | refine walkL_ret ?_ | refine walkL_exit ?_ | refine blockA_here ?_ | refine blockA_other rfl ?_ | refine blockA_ret ?_ | refine blockA_normal ?_ | refine thenA_ret ?_ | refine thenA_exit ?_ | refine thenA_normal ?_)
    refine walkL_release [13] ?_
    simp (maxSteps := 4000000) only [go_sem]
    refine walkL_loopS (fun (i : Nat) => [(47, .d (.i i))]) (fun i => [(36, some (.arr 95 8 (pathRows (updI f n.paths i))))]) (fun i => i ≤ n.paths.length) (fun i => n.paths.length - i) 0 ?_ (Nat.zero_le _) ?_
    · simp (maxSteps := 4000000) only [go_sem, updI_zero]
      refine weak_of [] ?_ ?_ rfl rfl <;> simp [lessT, lessM, lessB, AV.less]
      all_goals first | done | rfl | exact ⟨rfl, rfl⟩ | rw [updI_zero]
    · intro i hi
      simp (maxSteps := 4000000) only [go_sem]
      repeat (first | refine walkL_seq ?_ | refine walkL_skip ?_ | refine walkL_block ?_ | (refine walkL_region fun K hK => ?_; simp (maxSteps := 4000000) only [go_sem]; refine hK _ ?_; clear hK K) | refine walkL_nil ?_ | refine walkL_ret ?_ | refine walkL_exit ?_ | refine blockA_here ?_ | refine blockA_other rfl ?_ | refine blockA_ret ?_ | refine blockA_normal ?_ | refine thenA_ret ?_ | refine thenA_exit ?_ | refine thenA_normal ?_)
      refine walkL_cond rfl (fun hb => ?_) (fun hb => ?_)
      · have hlt : i < n.paths.length := by simpa using hb
        have hw : IntKind.i64.wrap ((i : Int) + 1) = ((i + 1 : Nat) : Int) := by rw [wr_small (by omega)]; simp
        obtain ⟨x, hx⟩ : ∃ x, n.paths[i]? = some x := ⟨_, List.getElem?_eq_getElem hlt⟩
        have hxo := hn.opens x (List.mem_of_getElem? hx)
        have e1 := updI_set f hx
        have hLg := updI_get f hx
        have hLl := updI_len f n.paths i
        obtain ⟨L, hL⟩ : ∃ L, L = updI f n.paths i := ⟨_, rfl⟩
        rw [← hL] at e1 hLg hLl ⊢
        have hiL : i < L.length := by omega
        have g1 := pathRows_at hLg
        rw [Path.row_eq] at g1
        have c65 := h65 i
        have c67 := h67 i
        have hfx : f i x = safeP rules S H i x := by rw [hf]
        unfold safeP at hfx
        obtain ⟨R, hR⟩ : ∃ R, R = ofPath rules i := ⟨_, rfl⟩
        rw [← hR] at c65 c67 hfx
        cases q : ((R.length : Int) == 0)
        · rw [q] at hfx
          simp only [Bool.false_eq_true, if_false] at hfx
          obtain ⟨A, hA⟩ : ∃ A, A = openS R S H := ⟨_, rfl⟩
          rw [← hA] at c67 hfx
          have hAl : A.length < 2 ^ 30 := by
            have := spansQ_len (fun i => S.all fun s => keepsB alwaysB R s i) H
            rw [hA]
            unfold openS
            omega
          have c68 := f68 2881 69 [.ptr [.sl (spanRows x.opens)] 0, .ptr [.sl (spanRows A)] 0] (fun t => inSpans x.opens t && inSpans A ((t / 60 : Nat) : Int)) (fun t ht => f69 x.opens A t (by omega) hxo hAl) (by decide)
          unfold safeOpens at hfx
          obtain ⟨X, hX⟩ : ∃ X, X = spansQ (fun t => inSpans x.opens t && inSpans A ((t / 60 : Nat) : Int)) 2881 := ⟨_, rfl⟩
          rw [← hX] at c68 hfx
          have e2 : (pathRows L).set i [.i x.frm, .i x.to, .i x.grade, .i x.time.lo, .i x.time.hi, .i x.snow.lo, .i x.snow.hi, .sl (spanRows X)] = pathRows (L.set i { x with opens := X }) := pathRows_set L i { x with opens := X }
          have g2 : (pathRows (L.set i { x with opens := X }))[i]? = some [.i x.frm, .i x.to, .i x.grade, .i x.time.lo, .i x.time.hi, .i x.snow.lo, .i x.snow.hi, .sl (spanRows X)] := pathRows_at (x := { x with opens := X }) (List.getElem?_set_self hiL)
          have e3 : (pathRows (L.set i { x with opens := X })).set i [.i x.frm, .i x.to, .i x.grade, .i x.time.lo, .i x.time.hi, .i x.snow.lo, .i x.snow.hi, .sl (spanRows (X.take 6))] = pathRows (updI f n.paths (i + 1)) := by
            rw [← e1, hfx]
            have := pathRows_set (L.set i { x with opens := X }) i { x with opens := X.take 6 }
            rw [List.set_set] at this
            exact this
          have hL2 : (L.set i { x with opens := X }).length = L.length := by simp
          obtain ⟨L2, hL2e⟩ : ∃ L2, L2 = L.set i { x with opens := X } := ⟨_, rfl⟩
          rw [← hL2e] at e2 g2 e3 hL2
          have hiL2 : i < L2.length := by omega
          repeat (first | refine walkL_true rfl ?_ | refine walkL_false rfl ?_ | refine walkL_seq ?_ | refine walkL_skip ?_ | refine walkL_block ?_ | (refine walkL_region fun K hK => ?_; simp (maxSteps := 4000000) only [go_sem, g1, hiL, q]; (repeat (first | (refine ⟨_, .lent (hf := c65) (hd := rfl) (hr := rfl), ?_⟩; simp (maxSteps := 4000000) only [go_sem, g1, hiL, q]) | (refine ⟨_, .lent (hf := c67) (hd := rfl) (hr := rfl), ?_⟩; simp (maxSteps := 4000000) only [go_sem, g1, hiL, q]) | (refine ⟨_, .given (hf := c65) (hd := rfl) (ha := rfl), ?_⟩; simp (maxSteps := 4000000) only [go_sem, g1, hiL, q]) | (refine ⟨_, .given (hf := c67) (hd := rfl) (ha := rfl), ?_⟩; simp (maxSteps := 4000000) only [go_sem, g1, hiL, q]))); refine hK _ ?_; clear hK K) | refine walkL_nil ?_ | refine walkL_ret ?_ | refine walkL_exit ?_ | refine blockA_here ?_ | refine blockA_other rfl ?_ | refine blockA_ret ?_ | refine blockA_normal ?_ | refine thenA_ret ?_ | refine thenA_exit ?_ | refine thenA_normal ?_)
          refine walkL_region fun K hK => ?_
          simp (maxSteps := 4000000) only [go_sem, g1, hiL]
          refine ⟨_, .lentS (hdst := rfl) (hf := c68) (hd := rfl) (hr := by first | exact rowsFlat_int _ | exact rowsFlat_hour _ | exact rowsFlat_sight _ | exact rowsFlat_sky _ | exact rowsFlat_span _ | exact rowsFlat_bool _) (hfr := rfl), ?_⟩
          simp (maxSteps := 4000000) only [go_sem, g1, hiL, e2]
          refine hK _ ?_
          clear hK K
          have m1 : (0 : Int) ≤ min (X.length : Int) 6 := by omega
          have m2 : min (X.length : Int) 6 ≤ (X.length : Int) := by omega
          have m3 : (0 : Int) ≤ min (X.length : Int) 6 ∧ min (X.length : Int) 6 ≤ (X.length : Int) := ⟨m1, m2⟩
          have e6 : List.take (min (X.length : Int) 6).toNat (spanRows X) = spanRows (X.take 6) := by
            have : (min (X.length : Int) 6).toNat = min X.length 6 := by omega
            rw [this]
            unfold spanRows
            by_cases h6 : 6 ≤ X.length
            · rw [Nat.min_eq_right h6, List.map_take]
            · rw [Nat.min_eq_left (by omega), List.take_of_length_le (by simp), List.take_of_length_le (by omega)]
          have e7 : List.take ((min (X.length : Int) 6).toNat - 0) (List.drop 0 (spanRows X)) = spanRows (X.take 6) := by simpa using e6
          repeat (first | refine walkL_true rfl ?_ | refine walkL_false rfl ?_ | refine walkL_seq ?_ | refine walkL_skip ?_ | refine walkL_block ?_ | (refine walkL_region fun K hK => ?_; simp (maxSteps := 4000000) only [go_sem, g2, hiL2, hiL, m1, m2, m3, e6, e7, e3, hw, hL2]; refine hK _ ?_; clear hK K) | (refine walkL_drawn (by kernel_rfl) (by kernel_rfl) fun K hK => ?_; simp (maxSteps := 4000000) only [go_sem, g2, hiL2, hiL, m1, m2, m3, e6, e7, e3, hw, hL2]; refine ⟨by kernel_rfl, hK _ ?_⟩; clear hK K) | refine walkL_nil ?_ | refine walkL_ret ?_ | refine walkL_exit ?_ | refine blockA_here ?_ | refine blockA_other rfl ?_ | refine blockA_ret ?_ | refine blockA_normal ?_ | refine thenA_ret ?_ | refine thenA_exit ?_ | refine thenA_normal ?_)
          refine ⟨rfl, i + 1, ?_, hlt, by omega⟩
          refine weak_of [] ?_ ?_ rfl rfl <;> simp [lessT, lessM, lessB, AV.less]
          all_goals first | done | rfl | exact ⟨rfl, rfl⟩ | (rw [e6, e3])
        · rw [q] at hfx
          simp only [if_true] at hfx
          have c66 := f66 x.opens hxo
          have e2 : (pathRows L).set i [.i x.frm, .i x.to, .i x.grade, .i x.time.lo, .i x.time.hi, .i x.snow.lo, .i x.snow.hi, .sl (spanRows x.opens)] = pathRows (updI f n.paths (i + 1)) := by
            rw [← e1, hfx]
            exact pathRows_set L i x
          repeat (first | refine walkL_true rfl ?_ | refine walkL_false rfl ?_ | refine walkL_seq ?_ | refine walkL_skip ?_ | refine walkL_block ?_ | (refine walkL_region fun K hK => ?_; simp (maxSteps := 4000000) only [go_sem, g1, hiL, q]; (repeat (first | (refine ⟨_, .lent (hf := c65) (hd := rfl) (hr := rfl), ?_⟩; simp (maxSteps := 4000000) only [go_sem, g1, hiL, q]) | (refine ⟨_, .given (hf := c65) (hd := rfl) (ha := rfl), ?_⟩; simp (maxSteps := 4000000) only [go_sem, g1, hiL, q]))); refine hK _ ?_; clear hK K) | refine walkL_nil ?_ | refine walkL_ret ?_ | refine walkL_exit ?_ | refine blockA_here ?_ | refine blockA_other rfl ?_ | refine blockA_ret ?_ | refine blockA_normal ?_ | refine thenA_ret ?_ | refine thenA_exit ?_ | refine thenA_normal ?_)
          refine walkL_region fun K hK => ?_
          simp (maxSteps := 4000000) only [go_sem, g1, hiL]
          refine ⟨_, .lentS (hdst := rfl) (hf := c66) (hd := rfl) (hr := by first | exact rowsFlat_int _ | exact rowsFlat_hour _ | exact rowsFlat_sight _ | exact rowsFlat_sky _ | exact rowsFlat_span _ | exact rowsFlat_bool _) (hfr := rfl), ?_⟩
          simp (maxSteps := 4000000) only [go_sem, g1, hiL, e2]
          refine hK _ ?_
          clear hK K
          repeat (first | refine walkL_true rfl ?_ | refine walkL_false rfl ?_ | refine walkL_seq ?_ | refine walkL_skip ?_ | refine walkL_block ?_ | (refine walkL_region fun K hK => ?_; simp (maxSteps := 4000000) only [go_sem, hw]; refine hK _ ?_; clear hK K) | refine walkL_nil ?_ | refine walkL_ret ?_ | refine walkL_exit ?_ | refine blockA_here ?_ | refine blockA_other rfl ?_ | refine blockA_ret ?_ | refine blockA_normal ?_ | refine thenA_ret ?_ | refine thenA_exit ?_ | refine thenA_normal ?_)
          refine ⟨rfl, i + 1, ?_, hlt, by omega⟩
          refine weak_of [] ?_ ?_ rfl rfl <;> simp [lessT, lessM, lessB, AV.less]
          all_goals first | done | rfl | exact ⟨rfl, rfl⟩
      · have he : i = n.paths.length := by (have : ¬ i < n.paths.length := by simpa using hb); omega
        subst he
        rw [updI_all]
        repeat (first | refine walkL_seq ?_ | refine walkL_skip ?_ | refine walkL_block ?_ | (refine walkL_region fun K hK => ?_; simp (maxSteps := 4000000) only [go_sem]; refine hK _ ?_; clear hK K) | refine walkL_nil ?_ | refine walkL_ret ?_ | refine walkL_exit ?_ | refine blockA_here ?_ | refine blockA_other rfl ?_ | refine blockA_ret ?_ | refine blockA_normal ?_ | refine thenA_ret ?_ | refine thenA_exit ?_ | refine thenA_normal ?_)
        simp (maxSteps := 4000000) only [go_sem]
  · rw [if_neg h0]
    rw [if_neg h0] at h63
    have b0 : (ruledE n rules F seen (-1) != 0) = true := by simpa using h0
    obtain ⟨e, he⟩ : ∃ e, e = ruledE n rules F seen (-1) := ⟨_, rfl⟩
    rw [← he] at h63 b0 ⊢
    rw [Net.cells_eq] at h63
    have e0 : pathRows [] = [] := rfl
    refine fn_walk 100 Tryd.call37 Tryd.func37 rfl (by decide) fun J => ?_
    simp (maxSteps := 4000000) only [go_sem, St.start, Tryd.ntmps37, Tryd.results37, Net.cells_eq]
    repeat (first | refine walkL_true rfl ?_ | refine walkL_false rfl ?_ | refine walkL_seq ?_ | refine walkL_skip ?_ | refine walkL_block ?_ | (refine walkL_region fun K hK => ?_; simp (maxSteps := 4000000) only [go_sem, b0]; (repeat (first | (refine ⟨_, .lent (hf := h63) (hd := rfl) (hr := rfl), ?_⟩; simp (maxSteps := 4000000) only [go_sem, b0]) | (refine ⟨_, .given (hf := h63) (hd := rfl) (ha := rfl), ?_⟩; simp (maxSteps := 4000000) only [go_sem, b0]))); refine hK _ ?_; clear hK K) | refine walkL_nil ?_ | refine walkL_ret ?_ | refine walkL_exit ?_ | refine blockA_here ?_ | refine blockA_other rfl ?_ | refine blockA_ret ?_ | refine blockA_normal ?_ | refine thenA_ret ?_ | refine thenA_exit ?_ | refine thenA_normal ?_)
    simp (maxSteps := 4000000) only [go_sem, Net.cells_eq, e0]
    try rfl
end Go.Ab
namespace Go.Ab
open Go.RowKit Go.Proofs
set_option maxHeartbeats 16000000
set_option maxRecDepth 100000
attribute [local irreducible] WalkL Walk

/-! ### The example -/

def exL : Limits := ⟨40, 0, ⟨-5, 15⟩⟩
def exR : Rule := ⟨1, 1, exL⟩
def exSafe : Net := ⟨4, [⟨0, 1, 2, ⟨100, 120⟩, ⟨0, 0⟩, [⟨0, 2880⟩]⟩, ⟨1, 2, 3, ⟨60, 90⟩, ⟨4, 10⟩, [⟨180, 239⟩]⟩, ⟨2, 3, 2, ⟨60, 60⟩, ⟨0, 0⟩, [⟨400, 700⟩]⟩, ⟨0, 3, 2, ⟨300, 400⟩, ⟨0, 0⟩, [⟨0, 2880⟩]⟩, ⟨3, 0, 2, ⟨200, 240⟩, ⟨0, 0⟩, [⟨0, 2880⟩]⟩]⟩

theorem gap_ex : gapF exF [] exL 3 = (4, 0) := by kernel_rfl
theorem safe_ex : safeF exN [exR] exF [] = (exSafe, 0) := by kernel_rfl
theorem exF_small : ForeSmall exF := ⟨by decide, by intro l hl; revert hl l; decide⟩

theorem f10 : Fn Tryd.prog 10 [] (.bool true) := by
  have h35 := f35
  have h36 := f36
  have h14 := f14 exF [] exL 3 exF_small (by decide)
  have h37 := f37 exN [exR] exF [] ex_small (by decide) exF_small (by decide)
  rw [gap_ex] at h14
  rw [safe_ex] at h37
  have h38 := f38 180 239
  have e0 : sightRows [] = [] := rfl
  rw [e0] at h14 h37
  have e1 : exL.row = [.i 40, .i 0, .i (-5), .i 15] := rfl
  have e2 : ruleRows [exR] = [[.i 1, .i 1, .i 40, .i 0, .i (-5), .i 15]] := rfl
  rw [e1] at h14
  rw [e2] at h37
  simp only [exSafe, Net.cells, Path.row, Span.row, List.map_cons, List.map_nil] at h37
  simp only [Net.cells, exP, Party.cells] at h36
  dsimp only at h14 h37
  generalize exN.paths.map Path.row = P at h36 h37
  generalize exN.places = pl at h36 h37
  generalize scenRows exF = FF at h35 h14 h37
  refine fn_walk 69 Tryd.call10 Tryd.func10 rfl (by decide) fun J => ?_
  simp (maxSteps := 4000000) only [go_sem, St.start, Tryd.ntmps10, Tryd.results10]
  repeat (first | refine walkL_seq ?_ | refine walkL_skip ?_ | refine walkL_block ?_ | (refine walkL_region fun K hK => ?_; simp (maxSteps := 4000000) only [go_sem]; (repeat (first | (refine ⟨_, .lent (hf := h35) (hd := rfl) (hr := rfl), ?_⟩; simp (maxSteps := 4000000) only [go_sem]) | (refine ⟨_, .lent (hf := h36) (hd := rfl) (hr := rfl), ?_⟩; simp (maxSteps := 4000000) only [go_sem]) | (refine ⟨_, .lent (hf := h14) (hd := rfl) (hr := rfl), ?_⟩; simp (maxSteps := 4000000) only [go_sem]) | (refine ⟨_, .lent (hf := h37) (hd := rfl) (hr := rfl), ?_⟩; simp (maxSteps := 4000000) only [go_sem]) | (refine ⟨_, .lent (hf := h38) (hd := rfl) (hr := rfl), ?_⟩; simp (maxSteps := 4000000) only [go_sem]) | (refine ⟨_, .given (hf := h35) (hd := rfl) (ha := rfl), ?_⟩; simp (maxSteps := 4000000) only [go_sem]) | (refine ⟨_, .given (hf := h36) (hd := rfl) (ha := rfl), ?_⟩; simp (maxSteps := 4000000) only [go_sem]) | (refine ⟨_, .given (hf := h14) (hd := rfl) (ha := rfl), ?_⟩; simp (maxSteps := 4000000) only [go_sem]) | (refine ⟨_, .given (hf := h37) (hd := rfl) (ha := rfl), ?_⟩; simp (maxSteps := 4000000) only [go_sem]) | (refine ⟨_, .given (hf := h38) (hd := rfl) (ha := rfl), ?_⟩; simp (maxSteps := 4000000) only [go_sem]))); refine hK _ ?_; clear hK K) | (refine walkL_drawn (by kernel_rfl) (by kernel_rfl) fun K hK => ?_; simp (maxSteps := 4000000) only [go_sem]; (repeat (first | (refine ⟨_, .fn (hf := h35) (hd := rfl) (hr := .inl rfl), ?_⟩; simp (maxSteps := 4000000) only [go_sem]) | (refine ⟨_, .fn (hf := h36) (hd := rfl) (hr := .inl rfl), ?_⟩; simp (maxSteps := 4000000) only [go_sem]) | (refine ⟨_, .fn (hf := h14) (hd := rfl) (hr := .inl rfl), ?_⟩; simp (maxSteps := 4000000) only [go_sem]) | (refine ⟨_, .fn (hf := h37) (hd := rfl) (hr := .inl rfl), ?_⟩; simp (maxSteps := 4000000) only [go_sem]) | (refine ⟨_, .fn (hf := h38) (hd := rfl) (hr := .inl rfl), ?_⟩; simp (maxSteps := 4000000) only [go_sem]))); refine ⟨by kernel_rfl, hK _ ?_⟩; clear hK K) | refine walkL_nil ?_ | refine walkL_ret ?_ | refine walkL_exit ?_ | refine blockA_here ?_ | refine blockA_other rfl ?_ | refine blockA_ret ?_ | refine blockA_normal ?_ | refine thenA_ret ?_ | refine thenA_exit ?_ | refine thenA_normal ?_)
  simp (maxSteps := 4000000) only [go_sem]
end Go.Ab
namespace Go.Ab
open Go.RowKit Go.Proofs
set_option maxHeartbeats 8000000
set_option maxRecDepth 20000
attribute [local irreducible] WalkL Walk

/-! ### WeatherRanges -/

theorem f26 (a b : List Int) (ha : a.length < 2 ^ 30) : Fn Tryd.prog 26 [.sl (intRows a), .sl (intRows b)] (.bool (decide (a = b))) := by
  refine fn_walk 26 Tryd.call26 Tryd.func26 rfl (by decide) fun J => ?_
  simp (maxSteps := 4000000) only [go_sem, St.start, Tryd.ntmps26, Tryd.results26]
  repeat (first | refine walkL_seq ?_ | refine walkL_skip ?_ | refine walkL_block ?_ | (refine walkL_region fun K hK => ?_; simp (maxSteps := 4000000) only [go_sem, intRows_len]; refine hK _ ?_; clear hK K) | refine walkL_nil ?_ | refine walkL_ret ?_ | refine walkL_exit ?_ | refine blockA_here ?_ | refine blockA_other rfl ?_ | refine blockA_ret ?_ | refine blockA_normal ?_ | refine thenA_ret ?_ | refine thenA_exit ?_ | refine thenA_normal ?_)
  by_cases hl : a.length = b.length
  · have hne : ((a.length : Int) != (b.length : Int)) = false := by simp [hl]
    simp (maxSteps := 4000000) only [go_sem, hne]
    refine walkL_false rfl ?_
    repeat (first | refine walkL_seq ?_ | refine walkL_skip ?_ | refine walkL_block ?_ | (refine walkL_region fun K hK => ?_; simp (maxSteps := 4000000) only [go_sem]; refine hK _ ?_; clear hK K) | refine walkL_nil ?_ | refine walkL_ret ?_ | refine walkL_exit ?_ | refine blockA_here ?_ | refine blockA_other rfl ?_ | refine blockA_ret ?_ | refine blockA_normal ?_ | refine thenA_ret ?_ | refine thenA_exit ?_ | refine thenA_normal ?_)
    refine walkL_loopS (fun (i : Nat) => [(5, .d (.i i))]) (fun _ => []) (fun i => i ≤ a.length ∧ a.take i = b.take i) (fun i => a.length - i) 0 ?_ ⟨Nat.zero_le _, by simp⟩ ?_
    · simp (maxSteps := 4000000) only [go_sem]
      refine weak_of [] ?_ ?_ rfl rfl <;> simp [lessT, lessM, lessB, AV.less]
    · intro i ⟨hi, heq⟩
      simp (maxSteps := 4000000) only [go_sem]
      repeat (first | refine walkL_seq ?_ | refine walkL_skip ?_ | refine walkL_block ?_ | (refine walkL_region fun K hK => ?_; simp (maxSteps := 4000000) only [go_sem, intRows_len]; refine hK _ ?_; clear hK K) | refine walkL_nil ?_ | refine walkL_ret ?_ | refine walkL_exit ?_ | refine blockA_here ?_ | refine blockA_other rfl ?_ | refine blockA_ret ?_ | refine blockA_normal ?_ | refine thenA_ret ?_ | refine thenA_exit ?_ | refine thenA_normal ?_)
      refine walkL_cond rfl (fun hb => ?_) (fun hb => ?_)
      · have hlt : i < a.length := by simpa using hb
        have hw : IntKind.i64.wrap ((i : Int) + 1) = ((i + 1 : Nat) : Int) := by rw [wr_small (by omega)]; simp
        obtain ⟨x, hx⟩ : ∃ x, a[i]? = some x := ⟨_, List.getElem?_eq_getElem hlt⟩
        obtain ⟨y, hy⟩ : ∃ y, b[i]? = some y := ⟨_, List.getElem?_eq_getElem (hl ▸ hlt)⟩
        have g1 := intRows_at hx
        have g2 := intRows_at hy
        repeat (first | refine walkL_seq ?_ | refine walkL_skip ?_ | refine walkL_block ?_ | (refine walkL_region fun K hK => ?_; simp (maxSteps := 4000000) only [go_sem]; refine hK _ ?_; clear hK K) | refine walkL_nil ?_ | refine walkL_ret ?_ | refine walkL_exit ?_ | refine blockA_here ?_ | refine blockA_other rfl ?_ | refine blockA_ret ?_ | refine blockA_normal ?_ | refine thenA_ret ?_ | refine thenA_exit ?_ | refine thenA_normal ?_)
        refine walkL_drawn (by kernel_rfl) (by kernel_rfl) fun K hK => ?_
        simp (maxSteps := 4000000) only [go_sem, g1, g2]
        refine ⟨by kernel_rfl, hK _ ?_⟩
        clear hK K
        refine walkL_cond rfl (fun hc => ?_) (fun hc => ?_)
        · have hc : ¬ x = y := by simpa using hc
          have hab : ¬ a = b := by rintro rfl; rw [hx] at hy; cases hy; exact hc rfl
          repeat (first | refine walkL_seq ?_ | refine walkL_skip ?_ | refine walkL_block ?_ | (refine walkL_region fun K hK => ?_; simp (maxSteps := 4000000) only [go_sem]; refine hK _ ?_; clear hK K) | refine walkL_nil ?_ | refine walkL_ret ?_ | refine walkL_exit ?_ | refine blockA_here ?_ | refine blockA_other rfl ?_ | refine blockA_ret ?_ | refine blockA_normal ?_ | refine thenA_ret ?_ | refine thenA_exit ?_ | refine thenA_normal ?_)
          simp (maxSteps := 4000000) only [go_sem, hab]
        · have hc : x = y := by simpa using hc
          repeat (first | refine walkL_seq ?_ | refine walkL_skip ?_ | refine walkL_block ?_ | (refine walkL_region fun K hK => ?_; simp (maxSteps := 4000000) only [go_sem, hw]; refine hK _ ?_; clear hK K) | refine walkL_nil ?_ | refine walkL_ret ?_ | refine walkL_exit ?_ | refine blockA_here ?_ | refine blockA_other rfl ?_ | refine blockA_ret ?_ | refine blockA_normal ?_ | refine thenA_ret ?_ | refine thenA_exit ?_ | refine thenA_normal ?_)
          refine ⟨rfl, i + 1, ?_, ⟨hlt, by rw [List.take_add_one, List.take_add_one, heq, hx, hy, hc]⟩, by omega⟩
          refine weak_of [] ?_ ?_ rfl rfl <;> simp [lessT, lessM, lessB, AV.less]
      · have he : i = a.length := by (have : ¬ i < a.length := by simpa using hb); omega
        subst he
        have hab : a = b := list_eq_of_take hl heq
        repeat (first | refine walkL_seq ?_ | refine walkL_skip ?_ | refine walkL_block ?_ | (refine walkL_region fun K hK => ?_; simp (maxSteps := 4000000) only [go_sem]; refine hK _ ?_; clear hK K) | refine walkL_nil ?_ | refine walkL_ret ?_ | refine walkL_exit ?_ | refine blockA_here ?_ | refine blockA_other rfl ?_ | refine blockA_ret ?_ | refine blockA_normal ?_ | refine thenA_ret ?_ | refine thenA_exit ?_ | refine thenA_normal ?_)
        simp (maxSteps := 4000000) only [go_sem, hab]
  · have hne : ((a.length : Int) != (b.length : Int)) = true := by simp; omega
    have hab : ¬ a = b := by rintro rfl; exact hl rfl
    simp (maxSteps := 4000000) only [go_sem, hne]
    refine walkL_true rfl ?_
    repeat (first | refine walkL_seq ?_ | refine walkL_skip ?_ | refine walkL_block ?_ | (refine walkL_region fun K hK => ?_; simp (maxSteps := 4000000) only [go_sem]; refine hK _ ?_; clear hK K) | refine walkL_nil ?_ | refine walkL_ret ?_ | refine walkL_exit ?_ | refine blockA_here ?_ | refine blockA_other rfl ?_ | refine blockA_ret ?_ | refine blockA_normal ?_ | refine thenA_ret ?_ | refine thenA_exit ?_ | refine thenA_normal ?_)
    simp (maxSteps := 4000000) only [go_sem, hab]


theorem seen_vals (F : List (List Hour)) (seen : List Sight) (t : Bool) : (seenF F seen ≠ 0 → lookF F seen 0 t = seenF F seen) ∧ (seenF F seen = 0 → ForeGood F ∧ sightsB (hd0 F).length seen = true ∧ lookF F seen 0 t = if t then (if (possL F seen).isEmpty then 3 else 0) else 1) := by
  unfold seenF lookF
  cases hb : badF F
  · cases hq : sightsB (hd0 F).length seen
    · simp
    · simp only [Bool.false_eq_true, if_false, if_true]
      exact ⟨fun h => absurd rfl h, fun _ => ⟨fore_iff.1 hb, trivial, trivial⟩⟩
  · simp

theorem f28 (F : List (List Hour)) (seen : List Sight) (h : Int) (hs : ForeSmall F) (hsl : seen.length < 2 ^ 30) :
    Fn Tryd.prog 28 [.agg [.sl (scenRows F)], .sl (sightRows seen), .i h] (.tup [.agg (rangeF F seen h).1.row, .i (rangeF F seen h).2]) := by
  have h8 := f8 F seen hs hsl
  obtain ⟨t, ht⟩ : ∃ t, t = withinB h 0 ((hd0 F).length - 1) := ⟨_, rfl⟩
  have hsv := seen_vals F seen t
  have hr : rangeF F seen h = if lookF F seen 0 t = 0 then (hullAll (scensOf (possL F seen)) h, 0) else (noHour, lookF F seen 0 t) := by rw [ht]; rfl
  rw [hr]
  obtain ⟨e, he⟩ : ∃ e, e = seenF F seen := ⟨_, rfl⟩
  rw [← he] at h8 hsv
  by_cases h0 : e = 0
  · obtain ⟨hg, hsi, hlk⟩ := hsv.2 h0
    have hz : (e != 0) = false := by simp [h0]
    have hF := hg.scen
    have hH := hg.hours
    have hhead := headD_get (F := F) (by omega)
    have h32 := f32 F (hd0 F) h hhead (by omega)
    rw [← ht] at h32
    have h56 := f56 F seen hg hsi
    rw [hlk]
    clear hlk hsv hr he
    cases t
    · simp only [Bool.false_eq_true, if_false]
      rw [if_neg (by decide)]
      refine fn_walk 70 Tryd.call28 Tryd.func28 rfl (by decide) fun J => ?_
      simp (maxSteps := 4000000) only [go_sem, St.start, Tryd.ntmps28, Tryd.results28]
      repeat (first | refine walkL_true rfl ?_ | refine walkL_false rfl ?_ | refine walkL_seq ?_ | refine walkL_skip ?_ | refine walkL_block ?_ | (refine walkL_region fun K hK => ?_; simp (maxSteps := 4000000) only [go_sem, hz]; (repeat (first | (refine ⟨_, .lent (hf := h8) (hd := rfl) (hr := rfl), ?_⟩; simp (maxSteps := 4000000) only [go_sem, hz]) | (refine ⟨_, .lent (hf := h32) (hd := rfl) (hr := rfl), ?_⟩; simp (maxSteps := 4000000) only [go_sem, hz]) | (refine ⟨_, .given (hf := h8) (hd := rfl) (ha := rfl), ?_⟩; simp (maxSteps := 4000000) only [go_sem, hz]) | (refine ⟨_, .given (hf := h32) (hd := rfl) (ha := rfl), ?_⟩; simp (maxSteps := 4000000) only [go_sem, hz]))); refine hK _ ?_; clear hK K) | refine walkL_nil ?_ | refine walkL_ret ?_ | refine walkL_exit ?_ | refine blockA_here ?_ | refine blockA_other rfl ?_ | refine blockA_ret ?_ | refine blockA_normal ?_ | refine thenA_ret ?_ | refine thenA_exit ?_ | refine thenA_normal ?_)
      simp (maxSteps := 4000000) only [go_sem, noHour, Hour.row, Bool.false_eq_true, if_false]
      try rfl
    · have hwi := within_iff.1 ht.symm
      simp only [if_true]
      cases hp : (possL F seen).isEmpty
      · simp only [Bool.false_eq_true, if_false, if_true]
        have hsp := sights_spec hsi
        have hall := scens_all (seen := seen) hg
        have hpl : (possL F seen).length ≤ F.length := possFrom_len _ _ _
        have hpos : 0 < (possL F seen).length := by
          have : possL F seen ≠ [] := fun hc => by rw [hc] at hp; cases hp
          exact List.length_pos_iff.2 this
        obtain ⟨S, hS⟩ : ∃ S, S = scensOf (possL F seen) := ⟨_, rfl⟩
        obtain ⟨N, hN⟩ : ∃ N, N = numsOf (possL F seen) := ⟨_, rfl⟩
        have hSl : S.length = (possL F seen).length := by rw [hS, scens_len]
        have hNl : N.length = (possL F seen).length := by rw [hN, nums_len]
        have key : ∀ i, i < S.length → ∃ (k : Int) (l s : List Hour), N[i]? = some k ∧ 0 ≤ k ∧ F[k.toNat]? = some l ∧ h.toNat < l.length ∧ S[i]? = some s ∧ atF seen l h = hourAt s h := fun i hi => by
          obtain ⟨k, hk⟩ : ∃ k, (numsOf (possL F seen))[i]? = some k := ⟨_, List.getElem?_eq_getElem (by rw [nums_len]; omega)⟩
          obtain ⟨k0, l, hl, _, _, hpi⟩ := nums_get hk
          have hll := hg.len l (List.mem_of_getElem? hl)
          refine ⟨k, l, seenHours seen l, by rw [hN]; exact hk, k0, hl, by omega, by rw [hS, scensOf, List.getElem?_map, hpi]; rfl, ?_⟩
          have := atF_eq (seen := seen) (l := l) (fun s hs => by have := hsp.1 s hs; omega) hsp.2.1 h.toNat
          rw [Int.toNat_of_nonneg hwi.1] at this
          exact this
        rw [← hS] at hall ⊢
        rw [← hN] at h56
        have n0 : ((N.length : Int) == 0) = false := by
          have : ¬ ((N.length : Int) = 0) := by omega
          simpa using this
        obtain ⟨k0, l0, s0, a1, a2, a3, a4, a5, a6⟩ := key 0 (by omega)
        have g0 := intRows_at a1
        have c0 := f58 F seen l0 k0 h hsl a2 a3 ⟨hwi.1, a4⟩
        rw [a6] at c0
        have ehd : hd0 S = s0 := by
          cases S with
          | nil => cases a5
          | cons a l => simp at a5; subst a5; rfl
        have hallF : hullAll S h = S.foldl (fun o l => hullH o (hourAt l h)) (hourAt s0 h) := by unfold hullAll; rw [ehd]
        rw [hallF]
        obtain ⟨b0, hb0⟩ : ∃ b0, b0 = hourAt s0 h := ⟨_, rfl⟩
        rw [← hb0] at c0 ⊢
        rw [Hour.row] at c0
        refine fn_walk 70 Tryd.call28 Tryd.func28 rfl (by decide) fun J => ?_
        simp (maxSteps := 4000000) only [go_sem, St.start, Tryd.ntmps28, Tryd.results28]
        repeat (first | refine walkL_true rfl ?_ | refine walkL_false rfl ?_ | refine walkL_seq ?_ | refine walkL_skip ?_ | refine walkL_block ?_ | (refine walkL_region fun K hK => ?_; simp (maxSteps := 4000000) only [go_sem, hz, n0]; (repeat (first | (refine ⟨_, .lent (hf := h8) (hd := rfl) (hr := rfl), ?_⟩; simp (maxSteps := 4000000) only [go_sem, hz, n0]) | (refine ⟨_, .lent (hf := h32) (hd := rfl) (hr := rfl), ?_⟩; simp (maxSteps := 4000000) only [go_sem, hz, n0]) | (refine ⟨_, .lent (hf := h56) (hd := rfl) (hr := rfl), ?_⟩; simp (maxSteps := 4000000) only [go_sem, hz, n0]) | (refine ⟨_, .given (hf := h8) (hd := rfl) (ha := rfl), ?_⟩; simp (maxSteps := 4000000) only [go_sem, hz, n0]) | (refine ⟨_, .given (hf := h32) (hd := rfl) (ha := rfl), ?_⟩; simp (maxSteps := 4000000) only [go_sem, hz, n0]) | (refine ⟨_, .given (hf := h56) (hd := rfl) (ha := rfl), ?_⟩; simp (maxSteps := 4000000) only [go_sem, hz, n0]))); refine hK _ ?_; clear hK K) | refine walkL_nil ?_ | refine walkL_ret ?_ | refine walkL_exit ?_ | refine blockA_here ?_ | refine blockA_other rfl ?_ | refine blockA_ret ?_ | refine blockA_normal ?_ | refine thenA_ret ?_ | refine thenA_exit ?_ | refine thenA_normal ?_)
        refine walkL_drawn (by kernel_rfl) (by kernel_rfl) fun K hK => ?_
        simp (maxSteps := 4000000) only [go_sem, g0]
        refine ⟨_, .fn (hf := c0) (hd := rfl) (hr := .inr rfl), ?_⟩
        simp (maxSteps := 4000000) only [go_sem]
        refine ⟨by kernel_rfl, hK _ ?_⟩
        clear hK K
        repeat (first | refine walkL_true rfl ?_ | refine walkL_false rfl ?_ | refine walkL_seq ?_ | refine walkL_skip ?_ | refine walkL_block ?_ | (refine walkL_region fun K hK => ?_; simp (maxSteps := 4000000) only [go_sem]; refine hK _ ?_; clear hK K) | refine walkL_nil ?_ | refine walkL_ret ?_ | refine walkL_exit ?_ | refine blockA_here ?_ | refine blockA_other rfl ?_ | refine blockA_ret ?_ | refine blockA_normal ?_ | refine thenA_ret ?_ | refine thenA_exit ?_ | refine thenA_normal ?_)
        refine walkL_loopS (fun (i : Nat) => [(11, .d (.i i))]) (fun i => [(10, some (.box (((S.take i).foldl (fun o l => hullH o (hourAt l h)) b0).row.map AV.d)))]) (fun i => i ≤ N.length) (fun i => N.length - i) 0 ?_ (Nat.zero_le _) ?_
        · simp (maxSteps := 4000000) only [go_sem, Hour.row, List.take_zero, List.foldl_nil, List.map_cons, List.map_nil]
          refine weak_of [] ?_ ?_ rfl rfl <;> simp [lessT, lessM, lessB, AV.less]
          all_goals first | done | rfl
        · intro i hi
          obtain ⟨o, ho⟩ : ∃ o, o = (S.take i).foldl (fun o l => hullH o (hourAt l h)) b0 := ⟨_, rfl⟩
          rw [← ho]
          simp (maxSteps := 4000000) only [go_sem, Hour.row, List.map_cons, List.map_nil]
          repeat (first | refine walkL_seq ?_ | refine walkL_skip ?_ | refine walkL_block ?_ | (refine walkL_region fun K hK => ?_; simp (maxSteps := 4000000) only [go_sem]; refine hK _ ?_; clear hK K) | refine walkL_nil ?_ | refine walkL_ret ?_ | refine walkL_exit ?_ | refine blockA_here ?_ | refine blockA_other rfl ?_ | refine blockA_ret ?_ | refine blockA_normal ?_ | refine thenA_ret ?_ | refine thenA_exit ?_ | refine thenA_normal ?_)
          refine walkL_cond rfl (fun hb => ?_) (fun hb => ?_)
          · have hlt : i < N.length := by simpa using hb
            have hw : IntKind.i64.wrap ((i : Int) + 1) = ((i + 1 : Nat) : Int) := by rw [wr_small (by omega)]; simp
            obtain ⟨k, l, s, b1, b2, b3, b4, b5, b6⟩ := key i (by omega)
            have g1 := intRows_at b1
            have c1 := f58 F seen l k h hsl b2 b3 ⟨hwi.1, b4⟩
            rw [b6] at c1
            have hst := hull_step (h := h) b5 b0
            rw [← ho] at hst
            obtain ⟨y, hy⟩ : ∃ y, y = hourAt s h := ⟨_, rfl⟩
            rw [← hy] at c1 hst
            rw [Hour.row] at c1
            have c2 := f59 o.wind y.wind
            have c3 := f59 o.rain y.rain
            have c4 := f59 o.temp y.temp
            rw [Span.row, Span.row, Span.row] at c2 c3 c4
            repeat (first | refine walkL_seq ?_ | refine walkL_skip ?_ | refine walkL_block ?_ | (refine walkL_region fun K hK => ?_; simp (maxSteps := 4000000) only [go_sem]; refine hK _ ?_; clear hK K) | refine walkL_nil ?_ | refine walkL_ret ?_ | refine walkL_exit ?_ | refine blockA_here ?_ | refine blockA_other rfl ?_ | refine blockA_ret ?_ | refine blockA_normal ?_ | refine thenA_ret ?_ | refine thenA_exit ?_ | refine thenA_normal ?_)
            refine walkL_drawn (by kernel_rfl) (by kernel_rfl) fun K hK => ?_
            simp (maxSteps := 4000000) only [go_sem, g1]
            refine ⟨_, .fn (hf := c1) (hd := rfl) (hr := .inr rfl), ?_⟩
            simp (maxSteps := 4000000) only [go_sem]
            refine ⟨by kernel_rfl, hK _ ?_⟩
            clear hK K
            repeat (first | refine walkL_seq ?_ | refine walkL_skip ?_ | refine walkL_block ?_ | (refine walkL_region fun K hK => ?_; simp (maxSteps := 4000000) only [go_sem]; refine hK _ ?_; clear hK K) | refine walkL_nil ?_ | refine walkL_ret ?_ | refine walkL_exit ?_ | refine blockA_here ?_ | refine blockA_other rfl ?_ | refine blockA_ret ?_ | refine blockA_normal ?_ | refine thenA_ret ?_ | refine thenA_exit ?_ | refine thenA_normal ?_)
            refine walkL_drawn (by kernel_rfl) (by kernel_rfl) fun K hK => ?_
            simp (maxSteps := 4000000) only [go_sem]
            refine ⟨_, .fn (hf := c2) (hd := rfl) (hr := .inl rfl), ?_⟩
            simp (maxSteps := 4000000) only [go_sem]
            refine ⟨_, .fn (hf := c3) (hd := rfl) (hr := .inl rfl), ?_⟩
            simp (maxSteps := 4000000) only [go_sem]
            refine ⟨_, .fn (hf := c4) (hd := rfl) (hr := .inl rfl), ?_⟩
            simp (maxSteps := 4000000) only [go_sem]
            refine ⟨by kernel_rfl, hK _ ?_⟩
            clear hK K
            repeat (first | refine walkL_seq ?_ | refine walkL_skip ?_ | refine walkL_block ?_ | (refine walkL_region fun K hK => ?_; simp (maxSteps := 4000000) only [go_sem, hw]; refine hK _ ?_; clear hK K) | refine walkL_nil ?_ | refine walkL_ret ?_ | refine walkL_exit ?_ | refine blockA_here ?_ | refine blockA_other rfl ?_ | refine blockA_ret ?_ | refine blockA_normal ?_ | refine thenA_ret ?_ | refine thenA_exit ?_ | refine thenA_normal ?_)
            refine ⟨rfl, i + 1, ?_, hlt, by omega⟩
            rw [hst]
            refine weak_of [] ?_ ?_ rfl rfl <;> simp [lessT, lessM, lessB, AV.less]
            all_goals first | done | rfl | simp [hullH, Hour.row]
          · have he : i = N.length := by (have : ¬ i < N.length := by simpa using hb); omega
            subst he
            have : N.length = S.length := by omega
            rw [this, List.take_length] at ho
            rw [← ho]
            repeat (first | refine walkL_seq ?_ | refine walkL_skip ?_ | refine walkL_block ?_ | (refine walkL_region fun K hK => ?_; simp (maxSteps := 4000000) only [go_sem]; refine hK _ ?_; clear hK K) | refine walkL_nil ?_ | refine walkL_ret ?_ | refine walkL_exit ?_ | refine blockA_here ?_ | refine blockA_other rfl ?_ | refine blockA_ret ?_ | refine blockA_normal ?_ | refine thenA_ret ?_ | refine thenA_exit ?_ | refine thenA_normal ?_)
            simp (maxSteps := 4000000) only [go_sem, Hour.row]
      · have hN : numsOf (possL F seen) = [] := by
          rw [List.isEmpty_iff.1 hp]; rfl
        rw [hN] at h56
        have e0 : intRows [] = [] := rfl
        rw [e0] at h56
        rw [if_neg (by decide)]
        refine fn_walk 70 Tryd.call28 Tryd.func28 rfl (by decide) fun J => ?_
        simp (maxSteps := 4000000) only [go_sem, St.start, Tryd.ntmps28, Tryd.results28]
        repeat (first | refine walkL_true rfl ?_ | refine walkL_false rfl ?_ | refine walkL_seq ?_ | refine walkL_skip ?_ | refine walkL_block ?_ | (refine walkL_region fun K hK => ?_; simp (maxSteps := 4000000) only [go_sem, hz]; (repeat (first | (refine ⟨_, .lent (hf := h8) (hd := rfl) (hr := rfl), ?_⟩; simp (maxSteps := 4000000) only [go_sem, hz]) | (refine ⟨_, .lent (hf := h32) (hd := rfl) (hr := rfl), ?_⟩; simp (maxSteps := 4000000) only [go_sem, hz]) | (refine ⟨_, .lent (hf := h56) (hd := rfl) (hr := rfl), ?_⟩; simp (maxSteps := 4000000) only [go_sem, hz]) | (refine ⟨_, .given (hf := h8) (hd := rfl) (ha := rfl), ?_⟩; simp (maxSteps := 4000000) only [go_sem, hz]) | (refine ⟨_, .given (hf := h32) (hd := rfl) (ha := rfl), ?_⟩; simp (maxSteps := 4000000) only [go_sem, hz]) | (refine ⟨_, .given (hf := h56) (hd := rfl) (ha := rfl), ?_⟩; simp (maxSteps := 4000000) only [go_sem, hz]))); refine hK _ ?_; clear hK K) | refine walkL_nil ?_ | refine walkL_ret ?_ | refine walkL_exit ?_ | refine blockA_here ?_ | refine blockA_other rfl ?_ | refine blockA_ret ?_ | refine blockA_normal ?_ | refine thenA_ret ?_ | refine thenA_exit ?_ | refine thenA_normal ?_)
        simp (maxSteps := 4000000) only [go_sem, noHour, Hour.row, if_true]
        try rfl
  · rw [hsv.1 h0, if_neg h0]
    have hz : (e != 0) = true := by simpa using h0
    refine fn_walk 70 Tryd.call28 Tryd.func28 rfl (by decide) fun J => ?_
    simp (maxSteps := 4000000) only [go_sem, St.start, Tryd.ntmps28, Tryd.results28]
    repeat (first | refine walkL_true rfl ?_ | refine walkL_false rfl ?_ | refine walkL_seq ?_ | refine walkL_skip ?_ | refine walkL_block ?_ | (refine walkL_region fun K hK => ?_; simp (maxSteps := 4000000) only [go_sem, hz]; (repeat (first | (refine ⟨_, .lent (hf := h8) (hd := rfl) (hr := rfl), ?_⟩; simp (maxSteps := 4000000) only [go_sem, hz]) | (refine ⟨_, .given (hf := h8) (hd := rfl) (ha := rfl), ?_⟩; simp (maxSteps := 4000000) only [go_sem, hz]))); refine hK _ ?_; clear hK K) | refine walkL_nil ?_ | refine walkL_ret ?_ | refine walkL_exit ?_ | refine blockA_here ?_ | refine blockA_other rfl ?_ | refine blockA_ret ?_ | refine blockA_normal ?_ | refine thenA_ret ?_ | refine thenA_exit ?_ | refine thenA_normal ?_)
    simp (maxSteps := 4000000) only [go_sem, noHour, Hour.row]
    try rfl

theorem f5 (F : List (List Hour)) (seen : List Sight) (h : Int) (hs : ForeSmall F) (hsl : seen.length < 2 ^ 30) : Fn Tryd.prog 5 [.agg [.sl (scenRows F)], .sl (sightRows seen), .i h] (.bool true) := by
  have h7 := f7 F seen hs
  have h10 := f10
  cases q : far5 F seen
  · rw [q] at h7
    have h22 := f22 F hs
    have h23 := f23 F hs
    have h24 := f24 F hs
    have h12 := f12 F seen hs hsl
    have h25 := f25 F seen hs hsl
    have h27 := f27 F seen h hs hsl
    have h28 := f28 F seen h hs hsl
    have h1 : seen.length ≤ 549755813888 := by omega
    have h2 : 0 + seen.length ≤ 549755813888 := by omega
    obtain ⟨e, he⟩ : ∃ e, e = foreF F := ⟨_, rfl⟩
    rw [← he] at h23 h24
    obtain ⟨p, hp⟩ : ∃ p, p = if lookF F seen 0 true = 0 then numsOf (possL F seen) else [] := ⟨_, rfl⟩
    have hpl : p.length < 2 ^ 30 := by
      have := possFrom_len seen F 0
      have := hs.scen
      rw [hp]
      split
      · rw [nums_len]; unfold possL; omega
      · simp
    obtain ⟨k, hk⟩ : ∃ k, k = lookF F seen 0 true := ⟨_, rfl⟩
    rw [← hp, ← hk] at h12 h25
    have h26 := f26 p p hpl
    have d26 : decide (p = p) = true := by simp
    rw [d26] at h26
    obtain ⟨R, hR⟩ : ∃ R, R = rangeF F seen h := ⟨_, rfl⟩
    rw [← hR] at h27 h28
    obtain ⟨x, r⟩ := R
    dsimp only at h27 h28
    rw [Hour.row] at h27 h28
    have n1 : (e != e) = false := by simp
    have n2 : (k != k) = false := by simp
    have n3 : (r == r) = true := by simp
    have n4 : ∀ z : Int, (z == z) = true := fun z => by simp
    refine fn_walk 75 Tryd.call5 Tryd.func5 rfl (by decide) fun J => ?_
    simp (maxSteps := 4000000) only [go_sem, St.start, Tryd.ntmps5, Tryd.results5]
    repeat (first | refine walkL_true rfl ?_ | refine walkL_false rfl ?_ | refine walkL_seq ?_ | refine walkL_skip ?_ | refine walkL_block ?_ | (refine walkL_region fun K hK => ?_; simp (maxSteps := 4000000) only [go_sem, n1, n2, n3, n4, h1, h2, List.nil_append, List.length_nil]; (repeat (first | (refine ⟨_, .lent (hf := h7) (hd := rfl) (hr := rfl), ?_⟩; simp (maxSteps := 4000000) only [go_sem, n1, n2, n3, n4, h1, h2, List.nil_append, List.length_nil]) | (refine ⟨_, .lent (hf := h10) (hd := rfl) (hr := rfl), ?_⟩; simp (maxSteps := 4000000) only [go_sem, n1, n2, n3, n4, h1, h2, List.nil_append, List.length_nil]) | (refine ⟨_, .lent (hf := h22) (hd := rfl) (hr := rfl), ?_⟩; simp (maxSteps := 4000000) only [go_sem, n1, n2, n3, n4, h1, h2, List.nil_append, List.length_nil]) | (refine ⟨_, .lent (hf := h23) (hd := rfl) (hr := rfl), ?_⟩; simp (maxSteps := 4000000) only [go_sem, n1, n2, n3, n4, h1, h2, List.nil_append, List.length_nil]) | (refine ⟨_, .lent (hf := h24) (hd := rfl) (hr := rfl), ?_⟩; simp (maxSteps := 4000000) only [go_sem, n1, n2, n3, n4, h1, h2, List.nil_append, List.length_nil]) | (refine ⟨_, .lent (hf := h12) (hd := rfl) (hr := rfl), ?_⟩; simp (maxSteps := 4000000) only [go_sem, n1, n2, n3, n4, h1, h2, List.nil_append, List.length_nil]) | (refine ⟨_, .lent (hf := h25) (hd := rfl) (hr := rfl), ?_⟩; simp (maxSteps := 4000000) only [go_sem, n1, n2, n3, n4, h1, h2, List.nil_append, List.length_nil]) | (refine ⟨_, .lent (hf := h26) (hd := rfl) (hr := rfl), ?_⟩; simp (maxSteps := 4000000) only [go_sem, n1, n2, n3, n4, h1, h2, List.nil_append, List.length_nil]) | (refine ⟨_, .lent (hf := h27) (hd := rfl) (hr := rfl), ?_⟩; simp (maxSteps := 4000000) only [go_sem, n1, n2, n3, n4, h1, h2, List.nil_append, List.length_nil]) | (refine ⟨_, .lent (hf := h28) (hd := rfl) (hr := rfl), ?_⟩; simp (maxSteps := 4000000) only [go_sem, n1, n2, n3, n4, h1, h2, List.nil_append, List.length_nil]) | (refine ⟨_, .given (hf := h7) (hd := rfl) (ha := rfl), ?_⟩; simp (maxSteps := 4000000) only [go_sem, n1, n2, n3, n4, h1, h2, List.nil_append, List.length_nil]) | (refine ⟨_, .given (hf := h10) (hd := rfl) (ha := rfl), ?_⟩; simp (maxSteps := 4000000) only [go_sem, n1, n2, n3, n4, h1, h2, List.nil_append, List.length_nil]) | (refine ⟨_, .given (hf := h22) (hd := rfl) (ha := rfl), ?_⟩; simp (maxSteps := 4000000) only [go_sem, n1, n2, n3, n4, h1, h2, List.nil_append, List.length_nil]) | (refine ⟨_, .given (hf := h23) (hd := rfl) (ha := rfl), ?_⟩; simp (maxSteps := 4000000) only [go_sem, n1, n2, n3, n4, h1, h2, List.nil_append, List.length_nil]) | (refine ⟨_, .given (hf := h24) (hd := rfl) (ha := rfl), ?_⟩; simp (maxSteps := 4000000) only [go_sem, n1, n2, n3, n4, h1, h2, List.nil_append, List.length_nil]) | (refine ⟨_, .given (hf := h12) (hd := rfl) (ha := rfl), ?_⟩; simp (maxSteps := 4000000) only [go_sem, n1, n2, n3, n4, h1, h2, List.nil_append, List.length_nil]) | (refine ⟨_, .given (hf := h25) (hd := rfl) (ha := rfl), ?_⟩; simp (maxSteps := 4000000) only [go_sem, n1, n2, n3, n4, h1, h2, List.nil_append, List.length_nil]) | (refine ⟨_, .given (hf := h26) (hd := rfl) (ha := rfl), ?_⟩; simp (maxSteps := 4000000) only [go_sem, n1, n2, n3, n4, h1, h2, List.nil_append, List.length_nil]) | (refine ⟨_, .given (hf := h27) (hd := rfl) (ha := rfl), ?_⟩; simp (maxSteps := 4000000) only [go_sem, n1, n2, n3, n4, h1, h2, List.nil_append, List.length_nil]) | (refine ⟨_, .given (hf := h28) (hd := rfl) (ha := rfl), ?_⟩; simp (maxSteps := 4000000) only [go_sem, n1, n2, n3, n4, h1, h2, List.nil_append, List.length_nil]))); refine hK _ ?_; clear hK K) | (refine walkL_drawn (by kernel_rfl) (by kernel_rfl) fun K hK => ?_; simp (maxSteps := 4000000) only [go_sem, n1, n2, n3, n4, h1, h2, List.nil_append, List.length_nil]; (repeat (first | (refine ⟨_, .fn (hf := h7) (hd := rfl) (hr := .inl rfl), ?_⟩; simp (maxSteps := 4000000) only [go_sem, n1, n2, n3, n4, h1, h2, List.nil_append, List.length_nil]) | (refine ⟨_, .fn (hf := h10) (hd := rfl) (hr := .inl rfl), ?_⟩; simp (maxSteps := 4000000) only [go_sem, n1, n2, n3, n4, h1, h2, List.nil_append, List.length_nil]) | (refine ⟨_, .fn (hf := h22) (hd := rfl) (hr := .inl rfl), ?_⟩; simp (maxSteps := 4000000) only [go_sem, n1, n2, n3, n4, h1, h2, List.nil_append, List.length_nil]) | (refine ⟨_, .fn (hf := h23) (hd := rfl) (hr := .inl rfl), ?_⟩; simp (maxSteps := 4000000) only [go_sem, n1, n2, n3, n4, h1, h2, List.nil_append, List.length_nil]) | (refine ⟨_, .fn (hf := h24) (hd := rfl) (hr := .inl rfl), ?_⟩; simp (maxSteps := 4000000) only [go_sem, n1, n2, n3, n4, h1, h2, List.nil_append, List.length_nil]) | (refine ⟨_, .fn (hf := h12) (hd := rfl) (hr := .inl rfl), ?_⟩; simp (maxSteps := 4000000) only [go_sem, n1, n2, n3, n4, h1, h2, List.nil_append, List.length_nil]) | (refine ⟨_, .fn (hf := h25) (hd := rfl) (hr := .inl rfl), ?_⟩; simp (maxSteps := 4000000) only [go_sem, n1, n2, n3, n4, h1, h2, List.nil_append, List.length_nil]) | (refine ⟨_, .fn (hf := h26) (hd := rfl) (hr := .inl rfl), ?_⟩; simp (maxSteps := 4000000) only [go_sem, n1, n2, n3, n4, h1, h2, List.nil_append, List.length_nil]) | (refine ⟨_, .fn (hf := h27) (hd := rfl) (hr := .inl rfl), ?_⟩; simp (maxSteps := 4000000) only [go_sem, n1, n2, n3, n4, h1, h2, List.nil_append, List.length_nil]) | (refine ⟨_, .fn (hf := h28) (hd := rfl) (hr := .inl rfl), ?_⟩; simp (maxSteps := 4000000) only [go_sem, n1, n2, n3, n4, h1, h2, List.nil_append, List.length_nil]))); refine ⟨by kernel_rfl, hK _ ?_⟩; clear hK K) | refine walkL_nil ?_ | refine walkL_ret ?_ | refine walkL_exit ?_ | refine blockA_here ?_ | refine blockA_other rfl ?_ | refine blockA_ret ?_ | refine blockA_normal ?_ | refine thenA_ret ?_ | refine thenA_exit ?_ | refine thenA_normal ?_)
    simp (maxSteps := 4000000) only [go_sem]
  · rw [q] at h7
    refine fn_walk 75 Tryd.call5 Tryd.func5 rfl (by decide) fun J => ?_
    simp (maxSteps := 4000000) only [go_sem, St.start, Tryd.ntmps5, Tryd.results5]
    repeat (first | refine walkL_true rfl ?_ | refine walkL_false rfl ?_ | refine walkL_seq ?_ | refine walkL_skip ?_ | refine walkL_block ?_ | (refine walkL_region fun K hK => ?_; simp (maxSteps := 4000000) only [go_sem]; (repeat (first | (refine ⟨_, .lent (hf := h7) (hd := rfl) (hr := rfl), ?_⟩; simp (maxSteps := 4000000) only [go_sem]) | (refine ⟨_, .lent (hf := h10) (hd := rfl) (hr := rfl), ?_⟩; simp (maxSteps := 4000000) only [go_sem]) | (refine ⟨_, .given (hf := h7) (hd := rfl) (ha := rfl), ?_⟩; simp (maxSteps := 4000000) only [go_sem]) | (refine ⟨_, .given (hf := h10) (hd := rfl) (ha := rfl), ?_⟩; simp (maxSteps := 4000000) only [go_sem]))); refine hK _ ?_; clear hK K) | refine walkL_nil ?_ | refine walkL_ret ?_ | refine walkL_exit ?_ | refine blockA_here ?_ | refine blockA_other rfl ?_ | refine blockA_ret ?_ | refine blockA_normal ?_ | refine thenA_ret ?_ | refine thenA_exit ?_ | refine thenA_normal ?_)
    simp (maxSteps := 4000000) only [go_sem]
end Go.Ab
namespace Go.Ab
open Go.RowKit Go.Proofs
set_option maxHeartbeats 4000000
set_option maxRecDepth 20000

/-! ### Plain laws: spans of what is so, weathers, windows, gaps -/

/-- Real: observations, a weather, limits, a length. -/
structure RealX where
  seen : List Sight
  skies : List Sky
  lim : Limits
  len : Int
def RealX.cells (x : RealX) : List DV := [.sl (sightRows x.seen), .sl (skyRows x.skies), .i x.lim.wind, .i x.lim.rain, .i x.lim.temp.lo, .i x.lim.temp.hi, .i x.len]
structure EaseX where
  sight : Sight
  wind : Int
  rain : Int
  temp : Int
  less : Int
def EaseX.cells (y : EaseX) : List DV := [.i y.sight.hour, .i y.sight.sky.wind, .i y.sight.sky.rain, .i y.sight.sky.temp, .i y.wind, .i y.rain, .i y.temp, .i y.less]

theorem addSpan_in (A : List Span) (hA : ∀ s ∈ A, s.lo ≤ s.hi) (i x : Int) : inSpans (addSpan A i) x = (inSpans A x || (x == i)) := by
  rcases last_split A with rfl | ⟨B, s, rfl⟩
  · rw [Bool.eq_iff_iff]
    simp [addSpan, inSpans, withinB]
    omega
  · rw [addSpan_app]
    have hs := hA s (by simp)
    split
    · rename_i h
      have h : s.hi = i - 1 := by simpa using h
      have e : (s.lo ≤ x ∧ x ≤ i) ↔ ((s.lo ≤ x ∧ x ≤ s.hi) ∨ x = i) := by omega
      rw [Bool.eq_iff_iff]
      simp only [inSpans, withinB, List.any_append, List.any_cons, List.any_nil, Bool.or_false, Bool.or_eq_true, Bool.and_eq_true, decide_eq_true_eq, beq_iff_eq]
      rw [e, or_assoc]
    · rw [Bool.eq_iff_iff]
      have e : (i ≤ x ∧ x ≤ i) ↔ x = i := by omega
      simp only [inSpans, withinB, List.any_append, List.any_cons, List.any_nil, Bool.or_false, Bool.or_eq_true, Bool.and_eq_true, decide_eq_true_eq, beq_iff_eq]
      rw [e]

theorem addSpan_ok {A : List Span} {n : Nat} (hA : ∀ s ∈ A, 0 ≤ s.lo ∧ s.lo ≤ s.hi ∧ s.hi < (n : Int)) : ∀ s ∈ addSpan A (n : Int), 0 ≤ s.lo ∧ s.lo ≤ s.hi ∧ s.hi < ((n + 1 : Nat) : Int) := by
  rcases last_split A with rfl | ⟨B, s, rfl⟩
  · intro x hx
    simp only [addSpan, List.getLast?_nil, List.mem_singleton] at hx
    subst hx
    dsimp only
    omega
  · rw [addSpan_app]
    have hs := hA s (by simp)
    intro x hx
    split at hx
    · rcases List.mem_append.1 hx with hx | hx
      · have := hA x (by simp [hx]); omega
      · simp only [List.mem_singleton] at hx
        subst hx
        dsimp only
        omega
    · rcases List.mem_append.1 hx with hx | hx
      · have := hA x hx; omega
      · simp only [List.mem_singleton] at hx
        subst hx
        dsimp only
        omega

theorem spansQ_ok (q : Nat → Bool) : ∀ n, ∀ s ∈ spansQ q n, 0 ≤ s.lo ∧ s.lo ≤ s.hi ∧ s.hi < (n : Int)
  | 0 => fun s hs => by simp [spansQ] at hs
  | n + 1 => by
    have ih := spansQ_ok q n
    rw [spansQ]
    split
    · exact addSpan_ok ih
    · intro s hs
      have := ih s hs
      omega

theorem inSpans_spansQ (q : Nat → Bool) (x : Nat) : ∀ n, inSpans (spansQ q n) (x : Int) = (decide (x < n) && q x)
  | 0 => by simp [spansQ, inSpans]
  | n + 1 => by
    have ih := inSpans_spansQ q x n
    rw [spansQ]
    by_cases hx : x = n
    · subst hx
      have h0 : inSpans (spansQ q x) (x : Int) = false := by rw [ih]; simp
      split
      · rename_i hq
        rw [addSpan_in _ (fun s hs => (spansQ_ok q x s hs).2.1), hq]
        simp
      · rename_i hq
        rw [h0]
        simp [Bool.eq_false_iff.2 hq]
    · have e : decide (x < n + 1) = decide (x < n) := by
        by_cases h : x < n
        · rw [decide_eq_true h, decide_eq_true (by omega)]
        · rw [decide_eq_false h, decide_eq_false (by omega)]
      have e2 : ((x : Int) == (n : Int)) = false := by
        have : ¬ (x : Int) = (n : Int) := by omega
        simpa using this
      rw [e]
      split
      · rw [addSpan_in _ (fun s hs => (spansQ_ok q n s hs).2.1), ih, e2, Bool.or_false]
      · exact ih

/-! ### Weathers -/

theorem we5_iff {F : List (List Hour)} {seen : List Sight} {m : List Sky} : weB F seen m = true ↔
    m.length = (hd0 F).length ∧ (∀ s ∈ seen, skyAt m s.hour.toNat = s.sky) ∧ ∃ l ∈ F, agreesB seen l = true ∧ ∀ j < m.length, insideB (skyAt m j) (hourAt l (j : Int)) = true := by
  unfold weB seenEq
  rw [Bool.and_eq_true, Bool.and_eq_true, beq_iff_eq, List.all_eq_true, List.any_eq_true]
  constructor
  · rintro ⟨h1, h2, k, hk, hin⟩
    obtain ⟨i, hi⟩ := List.getElem?_of_mem hk
    obtain ⟨_, l, h3, h4, h5, _⟩ := nums_get hi
    rw [h4] at hin
    exact ⟨by omega, fun s hs => skyB_iff.1 (h2 s hs), l, List.mem_of_getElem? h3, h5, (inTo_iff _ _ _).1 hin⟩
  · rintro ⟨h1, h2, l, hl, ha, hin⟩
    refine ⟨by omega, fun s hs => skyB_iff.2 (h2 s hs), ?_⟩
    obtain ⟨i, hi⟩ := List.getElem?_of_mem hl
    have key : ∀ (F : List (List Hour)) (j i : Nat), F[i]? = some l → (j + i, seenHours seen l) ∈ possFrom seen F j := by
      intro F
      induction F with
      | nil => intro j i h; simp at h
      | cons x F ih =>
        intro j i h
        rw [possFrom]
        cases i with
        | zero =>
          simp at h
          subst h
          rw [if_pos ha]
          simp
        | succ i =>
          have := ih (j + 1) i (by simpa using h)
          rw [show j + 1 + i = j + (i + 1) by omega] at this
          split
          · exact List.mem_cons_of_mem _ this
          · exact this
    have hm := key F 0 i hi
    rw [Nat.zero_add] at hm
    refine ⟨(i : Int), List.mem_map.2 ⟨_, hm, rfl⟩, ?_⟩
    have : scenAt F (i : Int) = l := by simp [scenAt, hi]
    rw [this]
    exact (inTo_iff _ _ _).2 hin

theorem scens5_mem {F : List (List Hour)} {seen : List Sight} {l' : List Hour} : l' ∈ scensOf (possL F seen) ↔ ∃ l ∈ F, agreesB seen l = true ∧ l' = seenHours seen l := by
  unfold scensOf possL
  generalize hj : 0 = j
  clear hj
  induction F generalizing j with
  | nil => simp [possFrom]
  | cons x F ih =>
    rw [possFrom]
    split
    · rename_i h
      rw [List.map_cons, List.mem_cons, ih]
      constructor
      · rintro (rfl | ⟨l, h1, h2⟩)
        · exact ⟨x, by simp, h, rfl⟩
        · exact ⟨l, by simp [h1], h2⟩
      · rintro ⟨l, h1, h2, h3⟩
        rcases List.mem_cons.1 h1 with rfl | h1
        · exact Or.inl h3
        · exact Or.inr ⟨l, h1, h2, h3⟩
    · rename_i h
      rw [ih]
      constructor
      · rintro ⟨l, h1, h2⟩
        exact ⟨l, by simp [h1], h2⟩
      · rintro ⟨l, h1, h2, h3⟩
        rcases List.mem_cons.1 h1 with rfl | h1
        · exact absurd h2 h
        · exact ⟨l, h1, h2, h3⟩

theorem sight5_range {F : List (List Hour)} {seen : List Sight} (hg : ForeGood F) (hsi : sightsB (hd0 F).length seen = true) {l : List Hour} (hl : l ∈ F) : ∀ s ∈ seen, 0 ≤ s.hour ∧ s.hour.toNat < l.length := by
  intro s hs
  have h1 := (sights_spec hsi).1 s hs
  have h2 := hg.len l hl
  omega

/-- A possible weather lies in a possible scenario, as it is known by the observations. -/
theorem we_in {F : List (List Hour)} {seen : List Sight} (hg : ForeGood F) (hsi : sightsB (hd0 F).length seen = true) {m : List Sky} (h : weB F seen m = true) :
    m.length = (hd0 F).length ∧ ∃ s ∈ scensOf (possL F seen), s.length = m.length ∧ ∀ j < m.length, insideB (skyAt m j) (hourAt s (j : Int)) = true := by
  obtain ⟨h1, h2, l, hl, ha, hin⟩ := we5_iff.1 h
  refine ⟨h1, seenHours seen l, scens5_mem.2 ⟨l, hl, ha, rfl⟩, by rw [seenHours_len, hg.len l hl, h1], fun j hj => ?_⟩
  have hsa := seenHours_at (seen := seen) (l := l) j (sight5_range hg hsi hl) (sights_spec hsi).2.1
  by_cases hex : ∃ s ∈ seen, s.hour = (j : Int)
  · obtain ⟨s, hs, hj2⟩ := hex
    rw [hsa.1 s hs hj2]
    have := h2 s hs
    rw [hj2, Int.toNat_natCast] at this
    rw [this]
    exact inside_point _
  · rw [hsa.2 (fun s hs he => hex ⟨s, hs, he⟩)]
    exact hin j hj

theorem we_poss {F : List (List Hour)} {seen : List Sight} (hg : ForeGood F) (hsi : sightsB (hd0 F).length seen = true) {m : List Sky} (h : weB F seen m = true) : possL F seen ≠ [] := by
  obtain ⟨_, s, hs, _⟩ := we_in hg hsi h
  intro hc
  rw [hc] at hs
  simp [scensOf] at hs

theorem inside5_iff {s : Sky} {h : Hour} : insideB s h = true ↔ (h.wind.lo ≤ s.wind ∧ s.wind ≤ h.wind.hi) ∧ (h.rain.lo ≤ s.rain ∧ s.rain ≤ h.rain.hi) ∧ (h.temp.lo ≤ s.temp ∧ s.temp ≤ h.temp.hi) := by
  simp [insideB, withinB]

theorem inside_hull {x : Sky} {a b : Hour} (h : insideB x a = true ∨ insideB x b = true) : insideB x (hullH a b) = true := by
  rw [inside5_iff] at *
  rw [inside5_iff] at h
  unfold hullH hullS
  dsimp only
  omega

theorem inside_fold {x : Sky} {h : Int} : ∀ (S : List (List Hour)) (b : Hour), (insideB x b = true ∨ ∃ s ∈ S, insideB x (hourAt s h) = true) → insideB x (S.foldl (fun o l => hullH o (hourAt l h)) b) = true
  | [], b, hx => by
    rcases hx with hx | ⟨s, hs, _⟩
    · exact hx
    · cases hs
  | l :: S, b, hx => by
    rw [List.foldl_cons]
    refine inside_fold S _ ?_
    rcases hx with hx | ⟨s, hs, hx⟩
    · exact .inl (inside_hull (.inl hx))
    · rcases List.mem_cons.1 hs with rfl | hs
      · exact .inl (inside_hull (.inr hx))
      · exact .inr ⟨s, hs, hx⟩
theorem inside_all {x : Sky} {h : Int} {S : List (List Hour)} {s : List Hour} (hs : s ∈ S) (hx : insideB x (hourAt s h) = true) : insideB x (hullAll S h) = true := inside_fold S _ (.inr ⟨s, hs, hx⟩)

theorem kept_iff {s : Sky} {l : Limits} : keptB s l = true ↔ s.wind ≤ l.wind ∧ s.rain ≤ l.rain ∧ l.temp.lo ≤ s.temp ∧ s.temp ≤ l.temp.hi := by simp [keptB, withinB]
theorem always_iff {l : Limits} {h : Hour} : alwaysB l h = true ↔ h.wind.hi ≤ l.wind ∧ h.rain.hi ≤ l.rain ∧ l.temp.lo ≤ h.temp.lo ∧ h.temp.hi ≤ l.temp.hi := by simp [alwaysB]
theorem ever_iff {l : Limits} {h : Hour} : everB l h = true ↔ h.wind.lo ≤ l.wind ∧ h.rain.lo ≤ l.rain ∧ max l.temp.lo h.temp.lo ≤ min l.temp.hi h.temp.hi := by simp [everB]
theorem always_kept {x : Sky} {l : Limits} {h : Hour} (hi : insideB x h = true) (ha : alwaysB l h = true) : keptB x l = true := by
  rw [inside5_iff] at hi
  rw [always_iff] at ha
  rw [kept_iff]
  omega
theorem kept_ever {x : Sky} {l : Limits} {h : Hour} (hi : insideB x h = true) (hk : keptB x l = true) : everB l h = true := by
  rw [inside5_iff] at hi
  rw [kept_iff] at hk
  rw [ever_iff]
  omega

/-! ### Windows -/

def IsBegin (l : List Bool) (n h : Nat) : Prop := ∀ k, h ≤ k → k < h + n → l[k]? = some true

theorem begins_from {n : Nat} (hn : 1 ≤ n) (L : List Bool) : ∀ (b : List Bool) (i run : Nat), L.drop i = b → run < n → run ≤ i → (∀ k, i - run ≤ k → k < i → L[k]? = some true) → (run < i → L[i - run - 1]? = some false) → (∀ h, h + n ≤ i → ¬ IsBegin L n h) →
    (beginsFrom (n : Int) b i run = -1 ∧ ∀ h, ¬ IsBegin L n h) ∨ ∃ r : Nat, beginsFrom (n : Int) b i run = r ∧ IsBegin L n r ∧ ∀ h < r, ¬ IsBegin L n h
  | [], i, run, hd, h1, h2, h3, h4, h5 => by
    refine .inl ⟨rfl, fun h hb => ?_⟩
    have hl : L.length ≤ i := by
      have := congrArg List.length hd
      simp at this
      omega
    have := hb (h + n - 1) (by omega) (by omega)
    have : h + n - 1 < L.length := (List.getElem?_eq_some_iff.1 this).1
    exact h5 h (by omega) hb
  | x :: b, i, run, hd, h1, h2, h3, h4, h5 => by
    have hx : L[i]? = some x := by
      have := congrArg (·[0]?) hd
      simpa using this
    have hd' : L.drop (i + 1) = b := by
      have := congrArg List.tail hd
      simpa using this
    rw [beginsFrom]
    cases x
    · simp only [Bool.false_eq_true, if_false]
      rw [if_neg (by omega)]
      refine begins_from hn L b (i + 1) 0 hd' (by omega) (by omega) (fun k _ _ => by omega) (fun _ => by simpa using hx) ?_
      intro h hh hb
      by_cases hc : h + n ≤ i
      · exact h5 h hc hb
      · have := hb i (by omega) (by omega)
        rw [hx] at this
        cases this
    · simp only [if_true]
      by_cases he : (run : Int) + 1 = n
      · rw [if_pos he]
        refine .inr ⟨i - run, by omega, fun k hk1 hk2 => ?_, fun h hh => h5 h (by omega)⟩
        by_cases hk : k = i
        · rw [hk]; exact hx
        · exact h3 k hk1 (by omega)
      · rw [if_neg he]
        have := begins_from hn L b (i + 1) (run + 1) hd' (by omega) (by omega) (fun k hk1 hk2 => by
          by_cases hk : k = i
          · rw [hk]; exact hx
          · exact h3 k (by omega) (by omega)) (fun hlt => by
            have := h4 (by omega)
            rw [show i + 1 - (run + 1) - 1 = i - run - 1 by omega]
            exact this) ?_
        · simpa using this
        · intro h hh hb
          by_cases hc : h + n ≤ i
          · exact h5 h hc hb
          · by_cases hr : run < i
            · have e := hb (i - run - 1) (by omega) (by omega)
              rw [h4 hr] at e
              cases e
            · omega

theorem begins_spec {n : Nat} (hn : 1 ≤ n) (l : List Bool) : (beginsF l n = -1 ∧ ∀ h, ¬ IsBegin l n h) ∨ ∃ r : Nat, beginsF l n = r ∧ IsBegin l n r ∧ ∀ h < r, ¬ IsBegin l n h := by
  have := begins_from hn l l 0 0 rfl (by omega) (by omega) (fun k _ h => by omega) (fun h => by omega) (fun h hh => by omega)
  exact this

theorem begins_of {n : Nat} (hn : 1 ≤ n) {l : List Bool} {h : Nat} (hb : IsBegin l n h) : 0 ≤ beginsF l n ∧ beginsF l n ≤ h := by
  rcases begins_spec hn l with ⟨_, h2⟩ | ⟨r, h1, h2, h3⟩
  · exact absurd hb (h2 h)
  · rw [h1]
    refine ⟨by omega, ?_⟩
    by_cases hc : h < r
    · exact absurd hb (h3 h hc)
    · omega
theorem begins_is {n : Nat} (hn : 1 ≤ n) {l : List Bool} (h : 0 ≤ beginsF l n) : IsBegin l n (beginsF l n).toNat := by
  rcases begins_spec hn l with ⟨h1, _⟩ | ⟨r, h1, h2, h3⟩
  · omega
  · rw [h1]; simpa using h2
theorem begins_low {n : Nat} (hn : 1 ≤ n) (l : List Bool) : -1 ≤ beginsF l n := by
  rcases begins_spec hn l with ⟨h1, _⟩ | ⟨r, h1, h2, h3⟩ <;> omega
theorem begins_end {n : Nat} (hn : 1 ≤ n) {l : List Bool} (h : 0 ≤ beginsF l n) : beginsF l n + n ≤ l.length := by
  have := begins_is hn h ((beginsF l n).toNat + n - 1) (by omega) (by omega)
  have := (List.getElem?_eq_some_iff.1 this).1
  omega
theorem begins_eq {n : Nat} (hn : 1 ≤ n) {l : List Bool} {h : Nat} (hb : IsBegin l n h) (hm : ∀ h' < h, ¬ IsBegin l n h') : beginsF l n = h := by
  have := begins_of hn hb
  by_cases hc : (beginsF l n).toNat < h
  · exact absurd (begins_is hn this.1) (hm _ hc)
  · omega
theorem begins_no {n : Nat} (hn : 1 ≤ n) {l : List Bool} (hm : ∀ h' : Nat, ¬ IsBegin l n h') : beginsF l n = -1 := by
  rcases begins_spec hn l with ⟨h1, _⟩ | ⟨r, h1, h2, h3⟩
  · exact h1
  · exact absurd h2 (hm r)

def LeB (A B : List Bool) : Prop := ∀ k : Nat, A[k]? = some true → B[k]? = some true
theorem LeB.drop {A B : List Bool} (h : LeB A B) (k : Nat) : LeB (A.drop k) (B.drop k) := fun i hi => by
  rw [List.getElem?_drop] at hi ⊢
  exact h _ hi
theorem begins_mono {n : Nat} (hn : 1 ≤ n) {A B : List Bool} (h : LeB A B) (hA : 0 ≤ beginsF A n) : 0 ≤ beginsF B n ∧ beginsF B n ≤ beginsF A n := by
  have := begins_of hn (l := B) (h := (beginsF A n).toNat) (fun k h1 h2 => h k (begins_is hn hA k h1 h2))
  omega

theorem gapAt_mono {n : Nat} (hn : 1 ≤ n) {A B : List Bool} (h : LeB A B) (hl : A.length = B.length) {k : Nat} (hk : k ≤ A.length) : gapAt B n k ≤ gapAt A n k := by
  unfold gapAt
  by_cases hA : 0 ≤ beginsF (A.drop k) n
  · have := begins_mono hn (h.drop k) hA
    rw [if_pos (show decide (beginsF (A.drop k) n ≥ 0) = true by simpa using hA), if_pos (show decide (beginsF (B.drop k) n ≥ 0) = true by simpa using this.1)]
    omega
  · rw [if_neg (show ¬ decide (beginsF (A.drop k) n ≥ 0) = true by simpa using hA)]
    by_cases hB : 0 ≤ beginsF (B.drop k) n
    · have := begins_end hn hB
      rw [List.length_drop] at this
      rw [if_pos (show decide (beginsF (B.drop k) n ≥ 0) = true by simpa using hB)]
      omega
    · rw [if_neg (show ¬ decide (beginsF (B.drop k) n ≥ 0) = true by simpa using hB)]
      omega

theorem gapTo_le {b : List Bool} {n : Int} {G : Int} : ∀ (k : Nat) (g : Int), gapTo b n k g ≤ G ↔ g ≤ G ∧ ∀ j < k, gapAt b n j ≤ G
  | 0, g => by simp [gapTo]
  | k + 1, g => by
    rw [gapTo, Int.max_le, gapTo_le k g]
    constructor
    · rintro ⟨⟨h1, h2⟩, h3⟩
      refine ⟨h1, fun j hj => ?_⟩
      rcases Nat.lt_succ_iff_lt_or_eq.1 hj with h | rfl
      · exact h2 j h
      · exact h3
    · rintro ⟨h1, h2⟩
      exact ⟨⟨h1, fun j hj => h2 j (by omega)⟩, h2 k (by omega)⟩

theorem gapS_fold {l : Limits} {n : Int} {G : Int} : ∀ (S : List (List Hour)) (g : Int), S.foldl (fun g s => gapTo (s.map (alwaysB l)) n s.length g) g ≤ G ↔ g ≤ G ∧ ∀ s ∈ S, ∀ j < s.length, gapAt (s.map (alwaysB l)) n j ≤ G
  | [], g => by simp
  | s :: S, g => by
    rw [List.foldl_cons, gapS_fold S, gapTo_le]
    simp only [List.mem_cons, forall_eq_or_imp, and_assoc]
theorem gapS_le {l : Limits} {n : Int} {G : Int} {S : List (List Hour)} : gapS l n S ≤ G ↔ 0 ≤ G ∧ ∀ s ∈ S, ∀ j < s.length, gapAt (s.map (alwaysB l)) n j ≤ G := gapS_fold S 0

theorem winFirst_le {l : Limits} {n G : Int} : ∀ (S : List (List Hour)) (H : Int), G ≤ winFirst l n S H ↔ G ≤ H ∧ ∀ s ∈ S, 0 ≤ beginsF (s.map (everB l)) n → G ≤ beginsF (s.map (everB l)) n
  | [], H => by simp [winFirst]
  | s :: S, H => by
    have ih := winFirst_le (l := l) (n := n) (G := G) S
    unfold winFirst at ih ⊢
    rw [List.foldl_cons, ih]
    simp only [List.mem_cons, forall_eq_or_imp]
    by_cases h : 0 ≤ beginsF (s.map (everB l)) n
    · rw [if_pos (by simpa using h), Int.le_min]
      constructor
      · rintro ⟨⟨h1, h2⟩, h3⟩; exact ⟨h1, fun _ => h2, h3⟩
      · rintro ⟨h1, h2, h3⟩; exact ⟨⟨h1, h2 h⟩, h3⟩
    · rw [if_neg (by simpa using h)]
      constructor
      · rintro ⟨h1, h3⟩; exact ⟨h1, fun hc => absurd hc h, h3⟩
      · rintro ⟨h1, _, h3⟩; exact ⟨h1, h3⟩
theorem winLast_fold {l : Limits} {n G : Int} : ∀ (S : List (List Hour)) (a : Int), S.foldl (fun a s => max a (beginsF (s.map (alwaysB l)) n)) a ≤ G ↔ a ≤ G ∧ ∀ s ∈ S, beginsF (s.map (alwaysB l)) n ≤ G
  | [], a => by simp
  | s :: S, a => by
    rw [List.foldl_cons, winLast_fold S, Int.max_le]
    simp only [List.mem_cons, forall_eq_or_imp, and_assoc]
theorem winLast_le {l : Limits} {n G : Int} {S : List (List Hour)} : winLast l n S ≤ G ↔ -1 ≤ G ∧ ∀ s ∈ S, beginsF (s.map (alwaysB l)) n ≤ G := winLast_fold S _

/-- Whether each hour of a weather keeps limits. -/
def keptL (m : List Sky) (l : Limits) : List Bool := m.map fun x => keptB x l

theorem map_hour {s : List Hour} {q : Hour → Bool} {k : Nat} (hk : k < s.length) : (s.map q)[k]? = some (q (hourAt s (k : Int))) := by
  rw [List.getElem?_map]
  have := hourAt_get (l := s) (i := (k : Int)) ⟨by omega, by omega⟩
  rw [Int.toNat_natCast] at this
  rw [this]
  rfl
theorem keptL_at {m : List Sky} {l : Limits} {k : Nat} (hk : k < m.length) : (keptL m l)[k]? = some (keptB (skyAt m k) l) := by
  rw [keptL, List.getElem?_map, skyAt_get hk]
  rfl

theorem kept_between {m : List Sky} {l : Limits} {s : List Hour} (hl : s.length = m.length) (hin : ∀ j < m.length, insideB (skyAt m j) (hourAt s (j : Int)) = true) :
    LeB (s.map (alwaysB l)) (keptL m l) ∧ LeB (keptL m l) (s.map (everB l)) := by
  constructor
  · intro k hk
    have hlt : k < s.length := by have := (List.getElem?_eq_some_iff.1 hk).1; simpa using this
    rw [map_hour hlt] at hk
    rw [keptL_at (by omega)]
    rw [always_kept (hin k (by omega)) (by simpa using hk)]
  · intro k hk
    have hlt : k < m.length := by have := (List.getElem?_eq_some_iff.1 hk).1; simpa [keptL] using this
    rw [keptL_at hlt] at hk
    rw [map_hour (by omega), kept_ever (hin k hlt) (by simpa using hk)]

/-- The theorem of the window, as a plain law. -/
theorem comes {S : List (List Hour)} {m : List Sky} {l : Limits} {n : Nat} (hn : 1 ≤ n) {s : List Hour} (hs : s ∈ S) (hl : s.length = m.length) (hin : ∀ j < m.length, insideB (skyAt m j) (hourAt s (j : Int)) = true) :
    (0 ≤ beginsF (keptL m l) n → 0 ≤ winFirst l n S m.length ∧ winFirst l n S m.length ≤ beginsF (keptL m l) n ∧ winFirst l n S m.length < m.length) ∧
    (winNever l n S = false → 0 ≤ beginsF (keptL m l) n ∧ beginsF (keptL m l) n ≤ winLast l n S ∧ winFirst l n S m.length ≤ winLast l n S) ∧
    ∀ k < m.length, gapAt (keptL m l) n k ≤ gapS l n S := by
  obtain ⟨hA, hE⟩ := kept_between (l := l) hl hin
  have hf := (winFirst_le S _).1 (Int.le_refl (winFirst l (n : Int) S m.length))
  have hla := winLast_le.1 (Int.le_refl (winLast l (n : Int) S))
  have hga := gapS_le.1 (Int.le_refl (gapS l (n : Int) S))
  refine ⟨fun hb => ?_, fun hnv => ?_, fun k hk => ?_⟩
  · have h1 := begins_mono hn hE hb
    have h2 := hf.2 s hs h1.1
    have h3 := begins_end hn hb
    have h4 : (keptL m l).length = m.length := by simp [keptL]
    refine ⟨(winFirst_le S _).2 ⟨by omega, fun _ _ h => h⟩, by omega, by omega⟩
  · have hs0 : 0 ≤ beginsF (s.map (alwaysB l)) n := by
      unfold winNever at hnv
      have := List.any_eq_false.1 hnv s hs
      simpa using this
    have h1 := begins_mono hn hA hs0
    have h2 := hla.2 s hs
    have h3 := begins_mono hn hE h1.1
    have h4 := hf.2 s hs h3.1
    exact ⟨h1.1, by omega, by omega⟩
  · have h1 := hga.2 s hs k (by omega)
    have h2 := gapAt_mono hn hA (by simp [keptL, hl]) (k := k) (by rw [List.length_map]; omega)
    omega
end Go.Ab
namespace Go.Ab
open Go.RowKit

/-! ### What is handed to a program, as deep values -/

/-- What a cell holds. -/
inductive Sh where
  | int (k : IntKind)
  | bool
  | sl (row : List Sh)

mutual
/-- A value of this form, no slice in it longer than N. -/
def Sh.fits (N : Nat) : Sh → DV → Prop
  | .int k, d => ∃ n, d = .int k n ∧ (Lit.int k n).wf = true
  | .bool, d => ∃ b, d = .bool b
  | .sl r, d => ∃ rows, d = .sl rows ∧ rows.length ≤ N ∧ ∀ row ∈ rows, Sh.fitsL N r row
def Sh.fitsL (N : Nat) : List Sh → List DV → Prop
  | [], ds => ds = []
  | s :: ss, ds => ∃ d r, ds = d :: r ∧ Sh.fits N s d ∧ Sh.fitsL N ss r
end

theorem Sh.fitsL_len {N : Nat} : ∀ {ss : List Sh} {ds : List DV}, Sh.fitsL N ss ds → ds.length = ss.length
  | [], _, h => by simp only [Sh.fitsL] at h; subst h; rfl
  | s :: ss, ds, h => by
    simp only [Sh.fitsL] at h
    obtain ⟨d, r, rfl, _, h⟩ := h
    simp [Sh.fitsL_len h]

theorem Sh.fitsL_append {N : Nat} : ∀ {ss ts : List Sh} {ds es : List DV}, Sh.fitsL N ss ds → Sh.fitsL N ts es → Sh.fitsL N (ss ++ ts) (ds ++ es)
  | [], _, _, _, h, k => by simp only [Sh.fitsL] at h; subst h; simpa using k
  | s :: ss, ts, ds, es, h, k => by
    simp only [Sh.fitsL] at h
    obtain ⟨d, r, rfl, hd, h⟩ := h
    simp only [List.cons_append, Sh.fitsL]
    exact ⟨d, r ++ es, rfl, hd, Sh.fitsL_append h k⟩

/-- The cells of a struct's fields, laid without gaps. -/
def shapesF (P : Program) (g : TypeId → Option (List Sh)) : List Field → Nat → Option (List Sh)
  | [], _ => some []
  | f :: fs, o => if f.offset = o then (g f.type).bind fun r => if P.cellsOf f.type = r.length then (shapesF P g fs (o + r.length)).map fun s => r ++ s else none else none

/-- The cells of a type that is made of integers, bools, slices and structs without gaps. -/
def shapes (P : Program) : Nat → TypeId → Option (List Sh)
  | 0, _ => none
  | n + 1, t => match P.underlying t with
    | some .bool => some [.bool]
    | some (.int k) => some [.int k]
    | some (.slice e) => (shapes P n e).bind fun r => if P.cellsOf e = r.length ∧ 0 < r.length then some [.sl r] else none
    | some (.struct fs) => (shapesF P (shapes P n) fs.toList 0).bind fun r => if P.cellsOf t = r.length then some r else none
    | _ => none

/-- A size of what is read. -/
structure BulkOk {H : Type} (b : DataW H → Nat) : Prop where
  slice : ∀ elems spare, elems.length ≤ b (.slice elems spare)
  elem : ∀ elems spare, ∀ d ∈ elems, b d ≤ b (.slice elems spare)
  part : ∀ parts, ∀ d ∈ parts, b d ≤ b (.agg parts)

/-- Cells that stand for these deep values. -/
def Reads (w : World) (ds : List DV) (cs : List Value) : Prop :=
  ∀ (i : Nat) d v, ds[i]? = some d → cs[i]? = some v → v.oneCell' = true ∧ DRel w (fun _ => False) d v

section
variable {H : Type} {enc : TypeId × Value → H} {P : Program} {w : World} {sp : Nat → Bool} {held : Bool}

theorem readF {b : DataW H → Nat} {N : Nat} {g : TypeId → Option (List Sh)} {m : Nat} {cs : List Value}
    (hg : ∀ (t : TypeId) sh, g t = some sh → ∀ cs d ps, DataW.trod enc P w 0 sp held m t cs = some (d, ps) → b d ≤ N → cs.length = sh.length ∧ ∃ ds, Sh.fitsL N sh ds ∧ Reads w ds cs) :
    ∀ (fs : List Field) (xs : List (DataW H × List MemPlace)) (o : Nat) (sh : List Sh), shapesF P g fs o = some sh → xs.length = fs.length →
      (∀ (i : Nat) (f : Field), fs[i]? = some f → DataW.trod enc P w 0 sp held m f.type ((cs.drop f.offset).take (P.cellsOf f.type)) = xs[i]?) → (∀ x ∈ xs, b x.1 ≤ N) →
      ∃ ds, Sh.fitsL N sh ds ∧ Reads w ds (cs.drop o)
  | [], xs, o, sh, h, hl, _, _ => by
    simp only [shapesF, Option.some.injEq] at h
    subst h
    exact ⟨[], by simp [Sh.fitsL], fun i d v h => by simp at h⟩
  | f :: fs, xs, o, sh, h, hl, hx, hb => by
    simp only [shapesF] at h
    split at h
    case isFalse => cases h
    case isTrue ho =>
    obtain ⟨r, hr, h⟩ := Option.bind_eq_some_iff.1 h
    split at h
    case isFalse => cases h
    case isTrue hc =>
    obtain ⟨s, hs, rfl⟩ := Option.map_eq_some_iff.1 h
    cases xs with
    | nil => simp at hl
    | cons x xs =>
      have h0 := hx 0 f rfl
      rw [List.getElem?_cons_zero] at h0
      obtain ⟨hlen, ds, hf, hd⟩ := hg _ _ hr _ x.1 x.2 h0 (hb x (by simp))
      obtain ⟨es, he, hd'⟩ := readF hg fs xs (o + r.length) s hs (by simpa using hl) (fun i f' hf' => by simpa using hx (i + 1) f' (by simpa using hf')) (fun y hy => hb y (by simp [hy]))
      have hdl := Sh.fitsL_len hf
      refine ⟨ds ++ es, Sh.fitsL_append hf he, fun i d v h1 h2 => ?_⟩
      rw [List.getElem?_drop] at h2
      rcases Nat.lt_or_ge i ds.length with hi | hi
      · rw [List.getElem?_append_left hi] at h1
        refine hd i d v h1 ?_
        rw [List.getElem?_take, List.getElem?_drop, ho, if_pos (by omega), h2]
      · rw [List.getElem?_append_right hi] at h1
        refine hd' (i - ds.length) d v h1 ?_
        rw [List.getElem?_drop]
        rw [show o + r.length + (i - ds.length) = o + i from by omega, h2]

theorem cells_get {w : World} {a : Addr} {n : Nat} {cs : List Value} (h : w.cells? 0 a n = some cs) : cs.length = n ∧ ∀ j, j < n → w.cell? (a.add j) = cs[j]? := by
  simp only [World.cells?, Nat.zero_le, if_true] at h
  exact ⟨by simpa using mapM_some_length h, fun j hj => mapM_some_get h j j (by simp [hj])⟩

theorem cell_spot {w : World} {a : Addr} {v : Value} (h : w.cell? a = some v) : a.spot = none := by
  unfold World.cell? at h
  split at h
  · split at h
    · cases h
    · cases hs : a.spot <;> simp_all
  · cases h

theorem trod_read {b : DataW H → Nat} (hb : BulkOk b) (N : Nat) : ∀ (n : Nat) (t : TypeId) (sh : List Sh), shapes P n t = some sh → ∀ fuel cs d ps, DataW.trod enc P w 0 sp held fuel t cs = some (d, ps) → b d ≤ N →
    cs.length = sh.length ∧ ∃ ds, Sh.fitsL N sh ds ∧ Reads w ds cs
  | 0, _, _, h => by simp [shapes] at h
  | n + 1, t, sh, h => by
    intro fuel cs d ps hd hN
    unfold shapes at h
    split at h
    case h_1 ht =>
      cases h
      obtain ⟨v, rfl, _⟩ := DataW.trod_bool ht hd
      refine ⟨rfl, [.bool v], ?_, ?_⟩
      · simp [Sh.fitsL, Sh.fits]
      · intro i d' v' h1 h2
        cases i with
        | zero => simp only [List.getElem?_cons_zero, Option.some.injEq] at h1 h2; subst h1; subst h2; exact ⟨rfl, .bool _⟩
        | succ i => simp at h1
    case h_2 k ht =>
      cases h
      obtain ⟨v, rfl, _, hw⟩ := DataW.trod_int ht hd
      refine ⟨rfl, [.int k v], ?_, ?_⟩
      · simpa [Sh.fitsL, Sh.fits] using hw
      · intro i d' v' h1 h2
        cases i with
        | zero => simp only [List.getElem?_cons_zero, Option.some.injEq] at h1 h2; subst h1; subst h2; exact ⟨rfl, .int _ _⟩
        | succ i => simp at h1
    case h_3 e ht =>
      obtain ⟨r, hr, h⟩ := Option.bind_eq_some_iff.1 h
      split at h
      case isFalse => cases h
      case isTrue hc =>
      obtain ⟨hc, hp⟩ := hc
      cases h
      rcases DataW.trod_slice ht hd with ⟨rfl, _⟩ | ⟨a, len, cap, elems, rest, m, rfl, rfl, hx, _, hcap, _, hl, hel, _⟩
      · refine ⟨rfl, [.sl []], ?_, ?_⟩
        · simp [Sh.fitsL, Sh.fits]
        · intro i d' v' h1 h2
          cases i with
          | zero => simp only [List.getElem?_cons_zero, Option.some.injEq] at h1 h2; subst h1; subst h2; exact ⟨rfl, .slNil⟩
          | succ i => simp at h1
      · obtain rfl : d = .slice (elems.map (·.1)) (rest.map (·.1)) := congrArg Prod.fst hx
        have hrow : ∀ i : Nat, ∃ ds : List DV, i < len → Sh.fitsL N r ds ∧ ∀ j d, ds[j]? = some d → ∃ v, w.cell? (a.add (i * r.length) |>.add j) = some v ∧ v.oneCell' = true ∧ DRel w (fun _ => False) d v := by
          intro i
          by_cases hi : i < len
          · have h1 := hel i hi
            rw [List.getElem?_eq_getElem (by omega)] at h1
            obtain ⟨cs', hcs, htr⟩ := Option.bind_eq_some_iff.1 h1
            have hin : (elems[i]'(by omega)).1 ∈ elems.map (·.1) := List.mem_map.2 ⟨_, List.getElem_mem _, rfl⟩
            obtain ⟨hlen, ds, hf, hds⟩ := trod_read hb N n e r hr m cs' (elems[i]'(by omega)).1 (elems[i]'(by omega)).2 htr (Nat.le_trans (hb.elem _ _ _ hin) hN)
            refine ⟨ds, fun _ => ⟨hf, fun j d hj => ?_⟩⟩
            have hjl : j < ds.length := by
              rcases Nat.lt_or_ge j ds.length with h | h
              · exact h
              · rw [List.getElem?_eq_none h] at hj; cases hj
            rw [Sh.fitsL_len hf] at hjl
            have hcell := (cells_get hcs).2 j (by omega)
            rw [hc] at hcell
            have hv : cs'[j]? = some (cs'[j]'(by omega)) := List.getElem?_eq_getElem _
            rw [hv] at hcell
            exact ⟨_, hcell, hds j d _ hj hv⟩
          · exact ⟨[], fun h => absurd h hi⟩
        have hcho := Classical.axiomOfChoice hrow
        obtain ⟨F, hF⟩ := hcho
        have hrl : ((List.range len).map F).length = len := by simp
        refine ⟨rfl, [.sl ((List.range len).map F)], ?_, ?_⟩
        · simp only [Sh.fitsL, Sh.fits]
          refine ⟨_, _, rfl, ⟨_, rfl, ?_, ?_⟩, rfl⟩
          · rw [hrl]
            have := hb.slice (elems.map (·.1)) (rest.map (·.1))
            simp only [List.length_map] at this
            omega
          · intro row hrow
            obtain ⟨i, hi, rfl⟩ := List.mem_map.1 hrow
            exact (hF i (by simpa using hi)).1
        · intro i d' v' h1 h2
          cases i with
          | succ i => simp at h1
          | zero =>
            simp only [List.getElem?_cons_zero, Option.some.injEq] at h1 h2
            subst h1; subst h2
            refine ⟨rfl, ?_⟩
            cases hlen : len with
            | zero => exact .slEmpty _ _
            | succ l =>
              have hspot : a.spot = none := by
                have h0 := hF 0 (by omega)
                have hfl := Sh.fitsL_len h0.1
                obtain ⟨v, hv, _⟩ := h0.2 0 ((F 0)[0]'(by omega)) (List.getElem?_eq_getElem _)
                simp only [Nat.zero_mul, Addr.add, if_true] at hv
                exact cell_spot hv
              obtain ⟨blk, off, spot⟩ := a
              simp only at hspot
              subst hspot
              have hadd : ∀ i j, (Addr.add (Addr.add ⟨blk, off, none⟩ (i * r.length)) j) = ⟨blk, off + i * r.length + j, none⟩ := by
                intro i j
                unfold Addr.add
                by_cases h1 : i * r.length = 0 <;> by_cases h2 : j = 0 <;> simp [h1, h2]
              have hall : ∀ (i : Nat) (r' : List DV) (j : Nat) (d : DV), ((List.range len).map F)[i]? = some r' → r'[j]? = some d → ∃ v, w.cell? ⟨blk, off + i * r.length + j, none⟩ = some v ∧ v.oneCell' = true ∧ DRel w (fun _ => False) d v := by
                intro i r' j d h1 h2
                rw [List.getElem?_map] at h1
                obtain ⟨i', hi', rfl⟩ := Option.map_eq_some_iff.1 h1
                obtain ⟨hil, rfl⟩ := List.getElem?_eq_some_iff.1 hi'
                simp only [List.length_range] at hil
                simp only [List.getElem_range] at h2
                obtain ⟨v, hv, h3, h4⟩ := (hF i hil).2 j d h2
                rw [hadd] at hv
                exact ⟨v, hv, h3, h4⟩
              have hfin := DRel.sl (w := w) (own := fun _ => False) ((List.range len).map F) blk off r.length cap (fun i j => (w.cell? ⟨blk, off + i * r.length + j, none⟩).getD .nilFunc) (by rw [hrl]; exact hcap)
                (by
                  intro row hrow
                  obtain ⟨i, hi, rfl⟩ := List.mem_map.1 hrow
                  exact Sh.fitsL_len (hF i (by simpa using hi)).1)
                (by
                  intro i r' j d h1 h2
                  obtain ⟨v, hv, h3, _⟩ := hall i r' j d h1 h2
                  rw [hv]
                  exact ⟨fun h => h, rfl, h3⟩)
                (by
                  intro i r' j d h1 h2
                  obtain ⟨v, hv, _, h4⟩ := hall i r' j d h1 h2
                  simp only [hv, Option.getD_some]
                  exact h4)
              rw [hrl] at hfin
              rw [hlen] at hfin
              exact hfin
    case h_4 fs ht =>
      obtain ⟨r, hr, h⟩ := Option.bind_eq_some_iff.1 h
      split at h
      case isFalse => cases h
      case isTrue hc =>
      cases h
      obtain ⟨xs, m, rfl, hx, hl, hxl, hi⟩ := DataW.trod_struct ht hd
      obtain rfl : d = .agg (xs.map (·.1)) := congrArg Prod.fst hx
      obtain ⟨ds, hf, hds⟩ := readF (fun t sh h cs d ps hd hN => trod_read hb N n t sh h m cs d ps hd hN) fs.toList xs 0 sh hr (by simpa using hxl) (fun i f hf => hi i f (by simpa using hf))
        (fun x hx => Nat.le_trans (hb.part _ _ (List.mem_map.2 ⟨x, hx, rfl⟩)) hN)
      exact ⟨by omega, ds, hf, by simpa using hds⟩
    case h_5 => cases h
end
end Go.Ab
/- The link from a walked contract to a statement's contract, for arguments of any number and of the types that the statements take; where what is read is of bulk at most the bound. -/
namespace Go.Ab
open Go.RowKit Go.Proofs Go.ChangeShapes Go.WideShapes Go.Proofs.YtlcbalngfpgjdaaDoor
set_option linter.unusedVariables false
set_option maxRecDepth 100000

section
variable {H : Type} {enc : TypeId × Value → H} {P : Program}
/-- The world grew, and nothing that was there has turned: the post-condition of a statement that changes nothing. -/
theorem post_of_below {f : Func} {s : ChangeSpec} {apart fresh handsOn again : Bool} {W W' : World} {args : Array Value} {v : Value} {ds gs : List (DataW H)} {before pa pv : List MemPlace}
    (hW : DataW.Whole enc P f.params.toList s.vars apart W args.toList ds gs before)
    (hres : ∀ (b : Nat) (sp : Nat → Bool) (hd : Bool), DataW.TrodAll enc P W' b sp hd f.resultTypes.toList (v.resultList f.resultTypes.size) (s.fn H (ds ++ gs)).results [])
    (hargs : ∀ sp : Nat → Bool, (∀ p ∈ before, sp p.block = true) → DataW.TrodAll enc P W' 0 sp true f.params.toList args.toList (s.fn H (ds ++ gs)).args pa)
    (hvars : ∀ sp : Nat → Bool, (∀ p ∈ before, sp p.block = true) → DataW.TrodVars enc P W' sp s.vars (s.fn H (ds ++ gs)).vars pv)
    (hps : before = pa ++ pv) (hb : Below W.heap.size W W')
    (hok : ∀ (j : Nat) (t : TypeId) (r : Value), f.resultTypes[j]? = some t → (v.resultList f.resultTypes.size)[j]? = some r → Value.okWide P W' .any 0 t r) :
    s.post enc P f apart fresh handsOn again W args v W' := by
  have hlt := hW.lt
  have hold : ∀ p ∈ before, (fun b => decide (b < W.heap.size)) p.block = true := fun p hp => by simpa using hlt p hp
  refine ⟨ds, gs, before, [], pa, pv, hW, hres _ _ _, hargs _ hold, hvars _ hold, World.keptBut_mono (fun p hp => ⟨hp, ?_⟩) (hb.frame (· ∈ before)), fun _ => ?_⟩
  · rw [hps, List.mem_append] at hp
    exact Or.inr hp
  · obtain ⟨_, _, _, _, _, hz, hn⟩ := hW
    refine ⟨hok, _, _, ([] ++ pa) ++ pv, ⟨[] ++ pa, pv, trodAll_append (hargs _ (fun _ _ => rfl)) (hres _ _ _), hvars _ (fun _ _ => rfl), rfl, ?_, ?_⟩, ?_⟩
    · intro b off hp
      have hp' : MemPlace.cell b off ∈ before := by rw [hps]; simpa using hp
      rw [hb.frozen (p := ⟨b, off, none⟩) (hlt _ hp')]
      exact hz b off hp'
    · intro ha
      have := hn ha
      rw [hps] at this
      simpa using this
    · intro p hp _
      rw [hps]
      simpa using hp
end

/-- Rows of this form are rows of values. -/
theorem rows_of {α : Type} {row : α → List DV} {Q : α → Prop} : ∀ {rows : List (List DV)}, (∀ r ∈ rows, ∃ a, r = row a ∧ Q a) → ∃ l : List α, rows = l.map row ∧ ∀ a ∈ l, Q a
  | [], _ => ⟨[], rfl, fun _ h => by cases h⟩
  | r :: rs, h => by
    obtain ⟨a, rfl, ha⟩ := h r (by simp)
    obtain ⟨l, rfl, hl⟩ := rows_of (rows := rs) (fun r hr => h r (by simp [hr]))
    exact ⟨a :: l, rfl, fun b hb => by rcases List.mem_cons.1 hb with rfl | hb; exact ha; exact hl b hb⟩

def iS : Sh := .int .i64
def hourS : List Sh := [iS, iS, iS, iS, iS, iS]
def skyS : List Sh := [iS, iS, iS]
def sightS : List Sh := [iS, iS, iS, iS]
def foreS : List Sh := [.sl [.sl hourS]]
def limS : List Sh := [iS, iS, iS, iS]
def realS : List Sh := [.sl sightS, .sl skyS, iS, iS, iS, iS, iS]
def easeS : List Sh := [iS, iS, iS, iS, iS, iS, iS, iS]

theorem int_of {N : Nat} {r : List DV} (h : Sh.fitsL N [iS] r) : ∃ s : Int, r = [.i s] ∧ True := by
  simp only [iS, Sh.fitsL, Sh.fits] at h
  obtain ⟨_, _, rfl, ⟨a, rfl, _⟩, rfl⟩ := h
  exact ⟨a, rfl, trivial⟩
theorem hour_of {N : Nat} {r : List DV} (h : Sh.fitsL N hourS r) : ∃ s : Hour, r = s.row ∧ True := by
  simp only [hourS, iS, Sh.fitsL, Sh.fits] at h
  obtain ⟨_, _, rfl, ⟨a, rfl, _⟩, _, _, rfl, ⟨b, rfl, _⟩, _, _, rfl, ⟨c, rfl, _⟩, _, _, rfl, ⟨d, rfl, _⟩, _, _, rfl, ⟨e, rfl, _⟩, _, _, rfl, ⟨f, rfl, _⟩, rfl⟩ := h
  exact ⟨⟨⟨a, b⟩, ⟨c, d⟩, ⟨e, f⟩⟩, rfl, trivial⟩
theorem sky_of {N : Nat} {r : List DV} (h : Sh.fitsL N skyS r) : ∃ s : Sky, r = s.row ∧ True := by
  simp only [skyS, iS, Sh.fitsL, Sh.fits] at h
  obtain ⟨_, _, rfl, ⟨a, rfl, _⟩, _, _, rfl, ⟨b, rfl, _⟩, _, _, rfl, ⟨c, rfl, _⟩, rfl⟩ := h
  exact ⟨⟨a, b, c⟩, rfl, trivial⟩
theorem sight_of {N : Nat} {r : List DV} (h : Sh.fitsL N sightS r) : ∃ s : Sight, r = s.row ∧ True := by
  simp only [sightS, iS, Sh.fitsL, Sh.fits] at h
  obtain ⟨_, _, rfl, ⟨d, rfl, _⟩, _, _, rfl, ⟨a, rfl, _⟩, _, _, rfl, ⟨b, rfl, _⟩, _, _, rfl, ⟨c, rfl, _⟩, rfl⟩ := h
  exact ⟨⟨d, ⟨a, b, c⟩⟩, rfl, trivial⟩

theorem ints_of {N : Nat} {d : DV} (h : Sh.fits N (.sl [iS]) d) : ∃ l : List Int, d = .sl (intRows l) ∧ l.length ≤ N := by
  simp only [Sh.fits] at h
  obtain ⟨rows, rfl, hl, hr⟩ := h
  obtain ⟨l, rfl, _⟩ := rows_of (fun r h => int_of (hr r h))
  exact ⟨l, rfl, by simpa using hl⟩
theorem skies_of {N : Nat} {d : DV} (h : Sh.fits N (.sl skyS) d) : ∃ l : List Sky, d = .sl (skyRows l) ∧ l.length ≤ N := by
  simp only [Sh.fits] at h
  obtain ⟨rows, rfl, hl, hr⟩ := h
  obtain ⟨l, rfl, _⟩ := rows_of (fun r h => sky_of (hr r h))
  exact ⟨l, rfl, by simpa using hl⟩
theorem sights_of {N : Nat} {d : DV} (h : Sh.fits N (.sl sightS) d) : ∃ l : List Sight, d = .sl (sightRows l) ∧ l.length ≤ N := by
  simp only [Sh.fits] at h
  obtain ⟨rows, rfl, hl, hr⟩ := h
  obtain ⟨l, rfl, _⟩ := rows_of (fun r h => sight_of (hr r h))
  exact ⟨l, rfl, by simpa using hl⟩
theorem hours_of {N : Nat} {r : List DV} (h : Sh.fitsL N [.sl hourS] r) : ∃ l : List Hour, r = [.sl (hourRows l)] ∧ l.length ≤ N := by
  simp only [Sh.fitsL] at h
  obtain ⟨d, _, rfl, h, rfl⟩ := h
  simp only [Sh.fits] at h
  obtain ⟨rows, rfl, hl, hr⟩ := h
  obtain ⟨l, rfl, _⟩ := rows_of (fun r h => hour_of (hr r h))
  exact ⟨l, rfl, by simpa using hl⟩
theorem scens_of {N : Nat} {d : DV} (h : Sh.fits N (.sl [.sl hourS]) d) : ∃ F : List (List Hour), d = .sl (scenRows F) ∧ F.length ≤ N ∧ ∀ l ∈ F, l.length ≤ N := by
  simp only [Sh.fits] at h
  obtain ⟨rows, rfl, hl, hr⟩ := h
  obtain ⟨F, rfl, hF⟩ := rows_of (row := fun l : List Hour => [DV.sl (hourRows l)]) (fun r h => hours_of (hr r h))
  exact ⟨F, rfl, by simpa using hl, hF⟩


theorem real_of {N : Nat} (hN : N < 2 ^ 30) {r : List DV} (h : Sh.fitsL N realS r) : ∃ x : RealX, r = x.cells ∧ x.seen.length < 2 ^ 30 ∧ x.skies.length < 2 ^ 30 := by
  unfold realS at h
  rw [Sh.fitsL] at h
  obtain ⟨x0, _, rfl, h0, h⟩ := h
  rw [Sh.fitsL] at h
  obtain ⟨x1, _, rfl, h1, h⟩ := h
  obtain ⟨S, rfl, s1⟩ := sights_of h0
  obtain ⟨K, rfl, k1⟩ := skies_of h1
  simp only [iS, Sh.fitsL, Sh.fits] at h
  obtain ⟨_, _, rfl, ⟨a, rfl, _⟩, _, _, rfl, ⟨b, rfl, _⟩, _, _, rfl, ⟨c, rfl, _⟩, _, _, rfl, ⟨d, rfl, _⟩, _, _, rfl, ⟨e, rfl, _⟩, rfl⟩ := h
  exact ⟨⟨S, K, ⟨a, b, ⟨c, d⟩⟩, e⟩, rfl, by show S.length < _; omega, by show K.length < _; omega⟩
theorem ease_of {N : Nat} {r : List DV} (h : Sh.fitsL N easeS r) : ∃ y : EaseX, r = y.cells := by
  simp only [easeS, iS, Sh.fitsL, Sh.fits] at h
  obtain ⟨_, _, rfl, ⟨a, rfl, _⟩, _, _, rfl, ⟨b, rfl, _⟩, _, _, rfl, ⟨c, rfl, _⟩, _, _, rfl, ⟨d, rfl, _⟩, _, _, rfl, ⟨e, rfl, _⟩, _, _, rfl, ⟨f, rfl, _⟩, _, _, rfl, ⟨g, rfl, _⟩, _, _, rfl, ⟨i, rfl, _⟩, rfl⟩ := h
  exact ⟨⟨⟨a, ⟨b, c, d⟩⟩, e, f, g, i⟩, rfl⟩
theorem fore_of {N : Nat} (hN : N < 2 ^ 30) {r : List DV} (h : Sh.fitsL N foreS r) : ∃ F : List (List Hour), r = [.sl (scenRows F)] ∧ ForeSmall F := by
  unfold foreS at h
  rw [Sh.fitsL] at h
  obtain ⟨x0, _, rfl, h0, h⟩ := h
  rw [Sh.fitsL] at h
  subst h
  obtain ⟨F, rfl, f1, f2⟩ := scens_of h0
  exact ⟨F, rfl, ⟨by omega, fun l hl => by have := f2 l hl; omega⟩⟩

theorem foreSh : shapes Tryd.prog 20 24 = some foreS := by kernel_rfl
theorem sightsSh : shapes Tryd.prog 20 25 = some [.sl sightS] := by kernel_rfl
theorem realSh : shapes Tryd.prog 20 32 = some realS := by kernel_rfl
theorem easeSh : shapes Tryd.prog 20 38 = some easeS := by kernel_rfl
theorem intSh : shapes Tryd.prog 20 3 = some [iS] := by kernel_rfl

theorem bulk_mem {H : Type} : ∀ {l : List (DataW H)} {d : DataW H}, d ∈ l → Rows.uptoBulk d ≤ Rows.uptoBulkAll l
  | x :: r, d, h => by
    simp only [Rows.uptoBulkAll]
    rcases List.mem_cons.1 h with rfl | h
    · omega
    · have := bulk_mem h
      omega

theorem bulk_pos {H : Type} (d : DataW H) : 1 ≤ Rows.uptoBulk d := by
  cases d with
  | lit l => cases l <;> simp [Rows.uptoBulk]
  | _ => simp [Rows.uptoBulk]

theorem bulk_len {H : Type} : ∀ (l : List (DataW H)), l.length ≤ Rows.uptoBulkAll l
  | [] => by simp
  | x :: r => by
    have h1 := bulk_pos x
    have h2 := bulk_len r
    simp only [Rows.uptoBulkAll, List.length_cons]
    omega

theorem bulkOk {H : Type} : BulkOk (Rows.uptoBulk (H := H)) where
  slice := fun elems spare => by
    have := bulk_len elems
    simp only [Rows.uptoBulk]
    omega
  elem := fun elems spare d hd => by
    have := bulk_mem hd
    simp only [Rows.uptoBulk]
    omega
  part := fun parts d hd => by
    have := bulk_mem hd
    simp only [Rows.uptoBulk]
    omega

/-- What a statement's argument of a type reads as. -/
structure Rd (t : TypeId) (C : DV → Prop) : Prop where
  rec' : Tryd.prog.readableRec t = true
  lt : t < Tryd.prog.types.size
  read : ∀ (H : Type) (enc : TypeId × Value → H) (w : World) (base : Nat) (v : Value) (d : DataW H) (ps : List MemPlace), Value.okWide Tryd.prog w .any base t v → DataW.Trod enc Tryd.prog w 0 (fun _ => true) true t v d ps → Rows.uptoBulk d ≤ 1048576 → ∃ x, C x ∧ DRel w (fun _ => False) x v

theorem agg_read {H : Type} {enc : TypeId × Value → H} {w : World} {t : TypeId} {sh : List Sh} (hs : shapes Tryd.prog 20 t = some sh) (h2 : 2 ≤ sh.length) {v : Value} {d : DataW H} {ps : List MemPlace}
    (h : DataW.Trod enc Tryd.prog w 0 (fun _ => true) true t v d ps) (hd : Rows.uptoBulk d ≤ 1048576) :
    ∃ ds, Sh.fitsL 1048576 sh ds ∧ DRel w (fun _ => False) (.agg ds) v := by
  obtain ⟨fuel, h⟩ := h
  obtain ⟨hl, ds, hf, hr⟩ := trod_read bulkOk 1048576 20 t sh hs fuel _ _ _ h hd
  have hdl := Sh.fitsL_len hf
  refine ⟨ds, hf, ?_⟩
  cases v with
  | agg cs =>
    simp only [Value.cells] at hl hr
    exact .agg _ _ (by simpa [hdl] using hl.symm) fun i d v h1 h2 => (hr i d v h1 (by simpa using h2)).2
  | _ => simp [Value.cells] at hl; omega

theorem one_read {H : Type} {enc : TypeId × Value → H} {w : World} {t : TypeId} {s : Sh} (hs : shapes Tryd.prog 20 t = some [s]) {v : Value} {d : DataW H} {ps : List MemPlace}
    (hv : v.cells.toList = [v]) (h : DataW.Trod enc Tryd.prog w 0 (fun _ => true) true t v d ps) (hd : Rows.uptoBulk d ≤ 1048576) :
    ∃ x, Sh.fits 1048576 s x ∧ DRel w (fun _ => False) x v := by
  obtain ⟨fuel, h⟩ := h
  obtain ⟨hl, ds, hf, hr⟩ := trod_read bulkOk 1048576 20 t _ hs fuel _ _ _ h hd
  simp only [Sh.fitsL] at hf
  obtain ⟨x, _, rfl, hx, rfl⟩ := hf
  exact ⟨x, hx, (hr 0 x v rfl (by rw [hv]; rfl)).2⟩

theorem agg_read1 {H : Type} {enc : TypeId × Value → H} {w : World} {t : TypeId} {sh : List Sh} {fs : Array Field} {base : Nat} (ht : Tryd.prog.underlying t = some (.struct fs)) (hs : shapes Tryd.prog 20 t = some sh) {v : Value} {d : DataW H} {ps : List MemPlace}
    (hok : Value.okWide Tryd.prog w .any base t v) (h : DataW.Trod enc Tryd.prog w 0 (fun _ => true) true t v d ps) (hd : Rows.uptoBulk d ≤ 1048576) :
    ∃ ds, Sh.fitsL 1048576 sh ds ∧ DRel w (fun _ => False) (.agg ds) v := by
  obtain ⟨cs, rfl, hsz⟩ := okWide_struct ht hok
  obtain ⟨fuel, h⟩ := h
  obtain ⟨hl, ds, hf, hr⟩ := trod_read bulkOk 1048576 20 t sh hs fuel _ _ _ h hd
  have hdl := Sh.fitsL_len hf
  refine ⟨ds, hf, ?_⟩
  simp only [Value.cells] at hl hr
  exact .agg _ _ (by simpa [hdl] using hl.symm) fun i d v h1 h2 => (hr i d v h1 (by simpa using h2)).2

theorem rdFore : Rd 24 (fun x => ∃ F : List (List Hour), x = .agg [.sl (scenRows F)] ∧ ForeSmall F) :=
  ⟨by kernel_rfl, of_decide_eq_true (by kernel_rfl), fun H enc w base v d ps hok h hd => by
    obtain ⟨ds, hf, hr⟩ := agg_read1 Tryd.underlying24 foreSh hok h hd
    obtain ⟨F, rfl, hF⟩ := fore_of (by decide) hf
    exact ⟨_, ⟨F, rfl, hF⟩, hr⟩⟩
theorem rdSights : Rd 25 (fun x => ∃ l : List Sight, x = .sl (sightRows l) ∧ l.length < 2 ^ 30) :=
  ⟨by kernel_rfl, of_decide_eq_true (by kernel_rfl), fun H enc w base v d ps hok h hd => by
    obtain ⟨a, len, cap, rfl⟩ := okWide_slice Tryd.underlying25 hok
    obtain ⟨x, hx, hr⟩ := one_read sightsSh rfl h hd
    obtain ⟨l, rfl, hl⟩ := sights_of hx
    exact ⟨_, ⟨l, rfl, by omega⟩, hr⟩⟩
theorem rdReal : Rd 32 (fun x => ∃ r : RealX, x = .agg r.cells ∧ r.seen.length < 2 ^ 30 ∧ r.skies.length < 2 ^ 30) :=
  ⟨by kernel_rfl, of_decide_eq_true (by kernel_rfl), fun H enc w base v d ps hok h hd => by
    obtain ⟨ds, hf, hr⟩ := agg_read1 Tryd.underlying32 realSh hok h hd
    obtain ⟨r, rfl, hr'⟩ := real_of (by decide) hf
    exact ⟨_, ⟨r, rfl, hr'⟩, hr⟩⟩
theorem rdEase : Rd 38 (fun x => ∃ r : EaseX, x = .agg r.cells) :=
  ⟨by kernel_rfl, of_decide_eq_true (by kernel_rfl), fun H enc w base v d ps hok h hd => by
    obtain ⟨ds, hf, hr⟩ := agg_read1 Tryd.underlying38 easeSh hok h hd
    obtain ⟨r, rfl⟩ := ease_of hf
    exact ⟨_, ⟨r, rfl⟩, hr⟩⟩
theorem rdInt : Rd 3 (fun x => ∃ n : Int, x = .i n) :=
  ⟨by kernel_rfl, of_decide_eq_true (by kernel_rfl), fun H enc w base v d ps hok h hd => by
    obtain ⟨n, rfl⟩ := okWide_int Tryd.underlying3 hok
    obtain ⟨x, hx, hr⟩ := one_read intSh rfl h hd
    simp only [iS, Sh.fits] at hx
    obtain ⟨m, rfl, _⟩ := hx
    exact ⟨_, ⟨m, rfl⟩, hr⟩⟩

/-! ### The one package variable -/

def wideLaid : List (String × DataW Unit) := [("bivouac/weather.wide", .agg [.agg [.lit (.int .i64 200), .lit (.int .i64 100), .agg [.lit (.int .i64 (-50)), .lit (.int .i64 50)]]])]
theorem gWide : Tryd.prog.globalNamed "bivouac/weather.wide" = some 0 := by kernel_rfl
theorem tWide : (Tryd.prog.globals[0]?).map (·.type) = some 106 := by kernel_rfl

theorem hid_of {W : World} (h : laidMetH Tryd.prog wideLaid W) : Hid Tryd.prog W (fun _ => False) := by
  intro _
  rw [MakeChecks.laidMetH_plain _ _ _ (by kernel_rfl)] at h
  obtain ⟨ps, ⟨g0, t0, cs0, f0, p0, q0, hg0, ht0, hv0, hd0, _, _⟩, _, _⟩ := h
  obtain rfl := Option.some.inj (gWide.symm.trans hg0)
  obtain rfl := Option.some.inj (tWide.symm.trans ht0)
  have c106 : Tryd.prog.cellsOf 106 = 4 := by kernel_rfl
  have c30 : Tryd.prog.cellsOf 30 = 4 := by kernel_rfl
  have c28 : Tryd.prog.cellsOf 28 = 2 := by kernel_rfl
  have c3 : Tryd.prog.cellsOf 3 = 1 := by kernel_rfl
  obtain ⟨y0, n0, e0, hl, h1⟩ := Go.ChangeShapes.trod_struct1 Tryd.underlying106 hd0
  obtain ⟨a0, a1, a2, n1, e1, _, k0, k1, k2⟩ := Deep.trod_struct3 Tryd.underlying30 h1
  obtain ⟨b0, b1, n2, e2, _, k3, k4⟩ := Go.ChangeShapes.trod_struct2 Tryd.underlying28 k2
  obtain ⟨i0, q0', r0, _⟩ := DataW.trod_int Tryd.underlying3 k0
  obtain ⟨i1, q1', r1, _⟩ := DataW.trod_int Tryd.underlying3 k1
  obtain ⟨i2, q2', r2, _⟩ := DataW.trod_int Tryd.underlying3 k3
  obtain ⟨i3, q3', r3, _⟩ := DataW.trod_int Tryd.underlying3 k4
  simp only [c106, c30, c28, c3] at hl q0' q1' q2' q3'
  subst r0 r1 r2 r3
  subst e2
  subst e1
  simp only [Prod.mk.injEq, DataW.agg.injEq, List.cons.injEq, and_true, DataW.lit.injEq, Lit.int.injEq, true_and] at e0
  obtain ⟨l0⟩ := cs0
  match l0, hl with
  | [v0, v1, v2, v3], _ =>
    simp at q0' q1' q2' q3'
    subst q0' q1' q2' q3'
    have hc := fun i => World.var?_cell hg0 hv0 i
    obtain ⟨rfl, rfl, rfl, rfl⟩ := e0.1
    refine .ptr [.i 200, .i 100, .i (-50), .i 50] 0 0 0 (fun j => if j = 0 then .int .i64 200 else if j = 1 then .int .i64 100 else if j = 2 then .int .i64 (-50) else .int .i64 50) (fun j d hj => ⟨id, ?_, ?_⟩) (fun j d hj => ?_)
    · have := hc j
      match j, hj with
      | 0, _ => simpa using this
      | 1, _ => simpa using this
      | 2, _ => simpa using this
      | 3, _ => simpa using this
    · match j, hj with
      | 0, _ => rfl
      | 1, _ => rfl
      | 2, _ => rfl
      | 3, _ => rfl
    · match j, hj with
      | 0, hj => cases hj; exact .int ..
      | 1, hj => cases hj; exact .int ..
      | 2, hj => cases hj; exact .int ..
      | 3, hj => cases hj; exact .int ..
/-- Deep values that are as asked, one by one. -/
def AllC : List (TypeId × (DV → Prop)) → List DV → Prop
  | [], [] => True
  | c :: cs, x :: xs => c.2 x ∧ AllC cs xs
  | _, _ => False

section
variable {H : Type} {enc : TypeId × Value → H} {W : World}
theorem read_all {base : Nat} : ∀ (L : List (TypeId × (DV → Prop))), (∀ c ∈ L, Rd c.1 c.2) → ∀ (vs : List Value) (ds : List (DataW H)) (ps : List MemPlace),
    (∀ (j : Nat) t v, (L.map (·.1))[j]? = some t → vs[j]? = some v → Value.okWide Tryd.prog W .any base t v) →
    DataW.TrodAll enc Tryd.prog W 0 (fun _ => true) true (L.map (·.1)) vs ds ps → Rows.uptoBulkAll ds ≤ 1048576 →
    vs.length = L.length ∧ ds.length = L.length ∧ ∃ xs, AllC L xs ∧ xs.length = L.length ∧ ∀ (i : Nat) x v, xs[i]? = some x → vs[i]? = some v → DRel W (fun _ => False) x v
  | [], _, vs, ds, ps, _, h, _ => by
    obtain ⟨rfl, rfl, rfl⟩ := trodAll_nil h
    exact ⟨rfl, rfl, [], trivial, rfl, fun i x v h => by simp at h⟩
  | c :: L, hc, vs, ds, ps, hval, h, hb => by
    obtain ⟨v, vs', d, ds', p, q, rfl, rfl, rfl, hd, hrest⟩ := trodAll_cons h
    simp only [Rows.uptoBulkAll] at hb
    obtain ⟨x, hx, hr⟩ := (hc c (by simp)).read H enc W base v d p (hval 0 _ v (by simp) (by simp)) hd (by omega)
    obtain ⟨h1, h2, xs, h3, h4, h5⟩ := read_all L (fun c h => hc c (by simp [h])) vs' ds' q (fun j t v h1 h2 => hval (j + 1) t v (by simpa using h1) (by simpa using h2)) hrest (by omega)
    refine ⟨by simp [h1], by simp [h2], x :: xs, ⟨hx, h3⟩, by simp [h4], fun i y w hy hw => ?_⟩
    cases i with
    | zero =>
      simp at hy hw
      subst hy
      subst hw
      exact hr
    | succ i => exact h5 i y w (by simpa using hy) (by simpa using hw)

theorem stay_all {W' : World} {sp : Nat → Bool} : ∀ (L : List (TypeId × (DV → Prop))), (∀ c ∈ L, Rd c.1 c.2) → ∀ (vs : List Value) (ds : List (DataW H)) (ps : List MemPlace),
    DataW.TrodAll enc Tryd.prog W 0 (fun _ => true) true (L.map (·.1)) vs ds ps → (∀ y ∈ ps, y.block < W.heap.size) → Below W.heap.size W W' → (∀ y ∈ ps, sp y.block = true) →
    DataW.TrodAll enc Tryd.prog W' 0 sp true (L.map (·.1)) vs ds ps
  | [], _, vs, ds, ps, h, _, _, _ => by
    obtain ⟨rfl, rfl, rfl⟩ := trodAll_nil h
    exact trodAll_mk0
  | c :: L, hc, vs, ds, ps, h, hlt, hb, hsp => by
    obtain ⟨v, vs', d, ds', p, q, rfl, rfl, rfl, hd, hrest⟩ := trodAll_cons h
    have hrd := hc c (by simp)
    exact ⟨p, q, WideElems.Trod_stays (by kernel_rfl) hrd.rec' hrd.lt hd (fun y hy => hb.same (hlt y (by simp [hy]))) (fun y hy => hsp y (by simp [hy])),
      stay_all L (fun c h => hc c (by simp [h])) vs' ds' q hrest (fun y hy => hlt y (by simp [hy])) hb (fun y hy => hsp y (by simp [hy])), rfl⟩
end

/-- A contract of the walk gives a statement's contract. -/
theorem link {f : FuncId} {fn : Func} (L : List (TypeId × (DV → Prop))) (hL : ∀ c ∈ L, Rd c.1 c.2) (hf : ∀ xs, AllC L xs → Fn Tryd.prog f xs (.bool true)) (hfn : fn.params = (L.map (·.1)).toArray) (hr : fn.resultTypes = #[4])
    (s : ChangeSpec) (hv : s.vars = []) (hs : ∀ (H : Type) (ds : List (DataW H)), ds.length = L.length → s.fn H ds = { results := [.lit (.bool true)], args := ds })
    {H : Type} {enc : TypeId × Value → H} {W : World} {args : Array Value} {ds gs : List (DataW H)} {before : List MemPlace}
    {base : Nat} (hval : ∀ (j : Nat) t v, fn.params[j]? = some t → args[j]? = some v → Value.okWide Tryd.prog W .any base t v)
    (hW : DataW.Whole enc Tryd.prog fn.params.toList s.vars false W args.toList ds gs before) (hk : Rows.uptoSmall H (ds ++ gs) = true) (hX : laidMetH Tryd.prog wideLaid W) :
    Calls Tryd.prog f args W fun e W' => ∃ v, e = .returned v ∧ s.post enc Tryd.prog fn false true false false W args v W' := by
  have hW' := hW
  obtain ⟨p, q, hA, hV, rfl, hfz, hnd⟩ := hW
  rw [hfn] at hA
  rw [hv] at hV
  obtain ⟨rfl, rfl⟩ := trodVars_none hV
  have hb := of_decide_eq_true hk
  simp only [List.append_nil] at hb
  obtain ⟨l1, l2, xs, hxs, l3, hrel⟩ := read_all (base := base) L hL _ _ _ (fun j t v h1 h2 => hval j t v (by rw [hfn]; simpa using h1) (by simpa using h2)) hA hb
  have hc := (hf xs hxs).2 W (fun _ => False) args (fun _ h => h.elim) (hid_of hX) ⟨by rw [l3, ← l1]; simp, fun i x v h1 h2 => hrel i x v h1 (by simpa using h2)⟩
  refine hc.mono fun e W' h => ?_
  obtain ⟨v, rfl, hvr, hbel⟩ := h
  cases hvr
  refine ⟨_, rfl, ?_⟩
  have hlt : ∀ y ∈ p, y.block < W.heap.size := fun y hy => hW'.lt y (by simpa using hy)
  have hok : Value.okWide Tryd.prog W' .any 0 4 (.bool true) := okWide_bool_mk (t := 4) Tryd.underlying4 true
  have hsf : s.fn H (ds ++ []) = { results := [.lit (.bool true)], args := ds } := by rw [List.append_nil]; exact hs H ds l2
  refine post_of_below (pa := p) (pv := []) hW' ?_ ?_ ?_ (by simp) hbel ?_
  · intro b sp hd
    rw [hr, hsf]
    exact trodAll_mk1 (shut_bool Tryd.underlying4 _)
  · intro sp hsp
    rw [hfn, hsf]
    exact stay_all L hL _ _ _ hA hlt hbel (fun y hy => hsp y (by simpa using hy))
  · intro sp hsp
    rw [hv, hsf]
    rfl
  · exact ok_one hr rfl hok

abbrev aF : TypeId × (DV → Prop) := (24, fun x => ∃ F : List (List Hour), x = .agg [.sl (scenRows F)] ∧ ForeSmall F)
abbrev aS : TypeId × (DV → Prop) := (25, fun x => ∃ l : List Sight, x = .sl (sightRows l) ∧ l.length < 2 ^ 30)
abbrev aR : TypeId × (DV → Prop) := (32, fun x => ∃ r : RealX, x = .agg r.cells ∧ r.seen.length < 2 ^ 30 ∧ r.skies.length < 2 ^ 30)
abbrev aE : TypeId × (DV → Prop) := (38, fun x => ∃ r : EaseX, x = .agg r.cells)
abbrev aI : TypeId × (DV → Prop) := (3, fun x => ∃ n : Int, x = .i n)
theorem rdAll : ∀ c ∈ [aF, aS, aR, aE, aI], Rd c.1 c.2 := by
  intro c hc
  rcases List.mem_cons.1 hc with rfl | hc
  · exact rdFore
  rcases List.mem_cons.1 hc with rfl | hc
  · exact rdSights
  rcases List.mem_cons.1 hc with rfl | hc
  · exact rdReal
  rcases List.mem_cons.1 hc with rfl | hc
  · exact rdEase
  rcases List.mem_cons.1 hc with rfl | hc
  · exact rdInt
  · cases hc
theorem allC1 {c : TypeId × (DV → Prop)} {xs : List DV} (h : AllC [c] xs) : ∃ x, xs = [x] ∧ c.2 x := by
  match xs, h with
  | [x], h => exact ⟨x, rfl, h.1⟩
theorem allC2 {c d : TypeId × (DV → Prop)} {xs : List DV} (h : AllC [c, d] xs) : ∃ x y, xs = [x, y] ∧ c.2 x ∧ d.2 y := by
  match xs, h with
  | [x, y], h => exact ⟨x, y, rfl, h.1, h.2.1⟩
theorem allC3 {c d e : TypeId × (DV → Prop)} {xs : List DV} (h : AllC [c, d, e] xs) : ∃ x y z, xs = [x, y, z] ∧ c.2 x ∧ d.2 y ∧ e.2 z := by
  match xs, h with
  | [x, y, z], h => exact ⟨x, y, z, rfl, h.1, h.2.1, h.2.2.1⟩

theorem returnsInHanded_of_cond_and {H : Type} {enc : TypeId × Value → H} {a : Assume} {C : Checked} {os : Os} {f : FuncId} {fn : Func} {s : OpenSpec} {k : (H : Type) → List (DataW H) → Bool} (hk : s.cond = some k) {F : Stop.Interp} {conds : List PathCond} {apart fresh handsOn again : Bool} {X : World → Prop}
    (hX : ∀ w w' : World, w.heap = w'.heap → X w → X w')
    (own : ownKnob C.prog.godebug = none) (started : os.Started) (noInit : C.prog.inits.idxOf? f = none) (hfn : C.prog.funcs[f]? = some fn)
    (witness : ∃ (w : World) (tape : Tape) (i : Input), w.os = os ∧ (w.forCall tape i).Shaped C.prog ∧ i.vars = [] ∧ Input.okWide C.prog (w.forCall tape i) .any w.heap.size f i ∧
      ((s.pre enc C.prog fn conds apart (w.forCall tape i).memory i.args ∧ X (w.forCall tape i).memory) ∧ sizedMet enc C.prog fn s apart (w.forCall tape i).memory i.args) ∧ a.holds C.prog (lone (Frame.enter C.prog f i.args .normal) [] (w.forCall tape i)))
    (contract : ∀ (W : World) (base : Nat) (args : Array Value) (ds gs : List (DataW H)) (before : List MemPlace),
      (∀ (j : Nat) t v, fn.params[j]? = some t → args[j]? = some v → Value.okWide C.prog W .any base t v) →
      DataW.Whole enc C.prog fn.params.toList s.vars apart W args.toList ds gs before →
      k H (ds ++ gs) = true → X W →
      Calls C.prog f args W fun e W' => ∃ v, e = .returned v ∧ (s.at F).post enc C.prog fn apart fresh handsOn again W args v W') :
    ReturnsInHanded a C os f .any (fun w args => (s.pre enc C.prog fn conds apart w args ∧ X w) ∧ sizedMet enc C.prog fn s apart w args) ((s.at F).post enc C.prog fn apart fresh handsOn again) := by
  refine returnsInHanded_of_calls own started noInit witness ?_
  intro w tape i _ _ _ hok hpre hholds
  obtain ⟨_, _, _, fn', hfn', _, _, _, _, hval⟩ := hok
  have e : fn' = fn := Option.some.inj (hfn'.symm.trans hfn)
  subst e
  obtain ⟨ds, gs, before, hw, hc, hkk⟩ := (OpenSpec.pre_some hk conds apart _ _).1 hpre.1.1
  have hw' := DataW.Whole.of_heap (w' := w.forCall tape i) (by rfl) hw
  refine (contract (w.forCall tape i) w.heap.size i.args ds gs before hval hw' hkk (hX _ _ (by rfl) hpre.1.2)).mono fun e W' ⟨v, he, hp⟩ => ?_
  subst he
  exact ChangeSpec.post_blind hp

theorem witness_laid {H : Type} {enc : TypeId × Value → H} {C : Checked} {os : Os} {f : FuncId} {fn : Func} {s : OpenSpec} {k : (H : Type) → List (DataW H) → Bool} (hk : s.cond = some k) {conds : List PathCond} {apart : Bool} {X : World → Prop} (modest : Bool) (w0 : World) (args : Array Value) (fuel : Nat) (hos : w0.os = os)
    (hsh : (w0.forCall (fun _ _ => 0) ⟨#[], args, []⟩).Shaped C.prog)
    (hok : Input.okWideB C.prog (w0.forCall (fun _ _ => 0) ⟨#[], args, []⟩) f ⟨#[], args, []⟩ = true)
    {x : List (DataW H) × List (DataW H) × List MemPlace} (hx : DataW.whole enc C.prog (w0.forCall (fun _ _ => 0) ⟨#[], args, []⟩).memory fn.params.toList s.vars apart args.toList fuel = some x)
    (hconds : conds.all (PathCond.test C.prog ⟨fn.params.toList, x.1, s.bare.plain.varTypes C.prog, x.2.1⟩) = true) (hkk : k H (x.1 ++ x.2.1) = true)
    (hsz : s.bare.sizedB enc C.prog fn apart (w0.forCall (fun _ _ => 0) ⟨#[], args, []⟩).memory args fuel = true)
    (hX : X (w0.forCall (fun _ _ => 0) ⟨#[], args, []⟩).memory) :
    ∃ (w : World) (tape : Tape) (i : Input), w.os = os ∧ (w.forCall tape i).Shaped C.prog ∧ i.vars = [] ∧ Input.okWide C.prog (w.forCall tape i) .any w.heap.size f i ∧
      ((s.pre enc C.prog fn conds apart (w.forCall tape i).memory i.args ∧ X (w.forCall tape i).memory) ∧ sizedMet enc C.prog fn s apart (w.forCall tape i).memory i.args) ∧ ({ modest := modest } : Assume).holds C.prog (lone (Frame.enter C.prog f i.args .normal) [] (w.forCall tape i)) :=
  ⟨w0, fun _ _ => 0, ⟨#[], args, []⟩, hos, hsh, (Input.okWide_of_okWideB (base := 0) hok).1, (Input.okWide_of_okWideB hok).2,
    ⟨⟨(OpenSpec.pre_some hk conds apart _ _).2 ⟨x.1, x.2.1, x.2.2, DataW.Whole_of_whole hx, hconds, hkk⟩, hX⟩, sizedMet_of_sizedB hsz⟩, by
    simp only [Assume.holds]
    exact ⟨by simp, by simp, fun _ => Modest.zero, by simp, by simp⟩⟩

theorem door_met (os : Os) (args : Array Value) : laidMetH Tryd.prog wideLaid ((World.doorLaid Tryd.prog 400 os).forCall (fun _ _ => 0) ⟨#[], args, []⟩).memory :=
  laidMetH_of_parts3 (fuel := 8) (laidMet_of_run' 8 (by kernel_rfl) (by kernel_rfl)) (by kernel_rfl) (by kernel_rfl)
theorem door_shaped (os : Os) (args : Array Value) : ((World.doorLaid Tryd.prog 400 os).forCall (fun _ _ => 0) ⟨#[], args, []⟩).Shaped Tryd.prog :=
  World.shaped_of_RefB (by kernel_rfl) (by kernel_rfl)
end Go.Ab
namespace Go.Ab
open Go.RowKit Go.Proofs
set_option maxHeartbeats 4000000
set_option maxRecDepth 20000

/-! ### Plain laws: wider limits, one more observation -/

def widerL (l : Limits) (wind rain temp : Int) : Limits := ⟨min 200 (l.wind + wind), min 100 (l.rain + rain), ⟨max (-50) (l.temp.lo - temp), min 50 (l.temp.hi + temp)⟩⟩
theorem wider_lim {l : Limits} {a b c : Int} (hl : limB l = true) (ha : 0 ≤ a) (hb : 0 ≤ b) (hc : 0 ≤ c) : limB (widerL l a b c) = true := by
  rw [lim_iff] at *
  unfold widerL
  dsimp only
  omega
theorem wider_always {l : Limits} {a b c : Int} (hl : limB l = true) (ha : 0 ≤ a) (hb : 0 ≤ b) (hc : 0 ≤ c) {h : Hour} (hh : alwaysB l h = true) : alwaysB (widerL l a b c) h = true := by
  rw [lim_iff] at hl
  rw [always_iff] at *
  unfold widerL
  dsimp only
  omega

theorem point_always {l : Limits} {x : Sky} {h : Hour} (hi : insideB x h = true) (ha : alwaysB l h = true) : alwaysB l (pointH x) = true := by
  rw [inside5_iff] at hi
  rw [always_iff] at *
  unfold pointH
  dsimp only
  omega

/-- With one more observation each scenario is a possible one of before, in which no more may be. -/
theorem more_scen5 {F : List (List Hour)} {seen : List Sight} {x : Sight} (hg : ForeGood F) (hsi : sightsB (hd0 F).length seen = true) (hsm : sightsB (hd0 F).length (seen ++ [x]) = true) :
    ∀ s' ∈ scensOf (possL F (seen ++ [x])), ∃ s ∈ scensOf (possL F seen), s'.length = s.length ∧ ∀ j < s.length, ∀ l, alwaysB l (hourAt s (j : Int)) = true → alwaysB l (hourAt s' (j : Int)) = true := by
  intro s' hs'
  obtain ⟨l0, h0, ha, rfl⟩ := scens5_mem.1 hs'
  have ha' := List.all_eq_true.1 ha
  have hap : agreesB seen l0 = true := List.all_eq_true.2 fun s hs => ha' s (by simp [hs])
  refine ⟨seenHours seen l0, scens5_mem.2 ⟨l0, h0, hap, rfl⟩, by rw [seenHours_len, seenHours_len], fun j hj l => ?_⟩
  have sq := seenHours_at (seen := seen ++ [x]) (l := l0) j (sight5_range hg hsm h0) (sights_spec hsm).2.1
  have sp := seenHours_at (seen := seen) (l := l0) j (sight5_range hg hsi h0) (sights_spec hsi).2.1
  by_cases hex : ∃ s ∈ seen, s.hour = (j : Int)
  · obtain ⟨s, hs, hj2⟩ := hex
    rw [sp.1 s hs hj2, sq.1 s (by simp [hs]) hj2]
    exact id
  · rw [sp.2 fun s hs he => hex ⟨s, hs, he⟩]
    by_cases hx : x.hour = (j : Int)
    · rw [sq.1 x (by simp) hx]
      have hin := ha' x (by simp)
      rw [hx] at hin
      exact point_always hin
    · rw [sq.2 fun s hs he => by
        rcases List.mem_append.1 hs with hs | hs
        · exact hex ⟨s, hs, he⟩
        · simp only [List.mem_singleton] at hs
          subst hs
          exact hx he]
      exact id

theorem nums_mem {F : List (List Hour)} {seen : List Sight} : ∀ {k : Int}, k ∈ numsOf (possL F seen) ↔ ∃ (i : Nat) (l : List Hour), k = i ∧ F[i]? = some l ∧ agreesB seen l = true := by
  intro k
  constructor
  · intro hk
    obtain ⟨i, hi⟩ := List.getElem?_of_mem hk
    obtain ⟨h0, l, h1, _, h2, _⟩ := nums_get hi
    exact ⟨k.toNat, l, by omega, h1, h2⟩
  · rintro ⟨i, l, rfl, h1, h2⟩
    have key : ∀ (F : List (List Hour)) (j i : Nat), F[i]? = some l → (j + i, seenHours seen l) ∈ possFrom seen F j := by
      intro F
      induction F with
      | nil => intro j i h; simp at h
      | cons x F ih =>
        intro j i h
        rw [possFrom]
        cases i with
        | zero =>
          simp at h
          subst h
          rw [if_pos h2]
          simp
        | succ i =>
          have := ih (j + 1) i (by simpa using h)
          rw [show j + 1 + i = j + (i + 1) by omega] at this
          split
          · exact List.mem_cons_of_mem _ this
          · exact this
    have := key F 0 i h1
    rw [Nat.zero_add] at this
    exact List.mem_map.2 ⟨_, this, rfl⟩

theorem nums_more {F : List (List Hour)} {seen : List Sight} {x : Sight} : ∀ k ∈ numsOf (possL F (seen ++ [x])), k ∈ numsOf (possL F seen) := by
  intro k hk
  obtain ⟨i, l, rfl, h1, h2⟩ := nums_mem.1 hk
  have h2' := List.all_eq_true.1 h2
  exact nums_mem.2 ⟨i, l, rfl, h1, List.all_eq_true.2 fun s hs => h2' s (by simp [hs])⟩

theorem gapS_mono {l l' : Limits} {n : Nat} (hn : 1 ≤ n) {S S' : List (List Hour)}
    (h : ∀ s' ∈ S', ∃ s ∈ S, s'.length = s.length ∧ ∀ j < s.length, alwaysB l (hourAt s (j : Int)) = true → alwaysB l' (hourAt s' (j : Int)) = true) : gapS l' n S' ≤ gapS l n S := by
  have hga := gapS_le.1 (Int.le_refl (gapS l (n : Int) S))
  refine gapS_le.2 ⟨hga.1, fun s' hs' j hj => ?_⟩
  obtain ⟨s, hs, hlen, hal⟩ := h s' hs'
  have h1 := hga.2 s hs j (by omega)
  have hle : LeB (s.map (alwaysB l)) (s'.map (alwaysB l')) := by
    intro k hk
    have hlt : k < s.length := by have := (List.getElem?_eq_some_iff.1 hk).1; simpa using this
    rw [map_hour hlt] at hk
    rw [map_hour (by omega), hal k hlt (by simpa using hk)]
  have h2 := gapAt_mono hn hle (by simp [hlen]) (k := j) (by rw [List.length_map]; omega)
  omega

/-- Whether all hours of some spans lie in others. -/
def withinS (A B : List Span) (H : Nat) : Bool := (List.range H).all fun h => !(inSpans A (h : Int)) || inSpans B (h : Int)
theorem withinS_iff {A B : List Span} {H : Nat} : withinS A B H = true ↔ ∀ h < H, inSpans A (h : Int) = true → inSpans B (h : Int) = true := by
  unfold withinS
  rw [List.all_eq_true]
  constructor
  · intro h i hi ha
    have := h i (by simpa using hi)
    rw [ha] at this
    simpa using this
  · intro h i hi
    have hi : i < H := by simpa using hi
    cases ha : inSpans A (i : Int)
    · rfl
    · rw [h i hi ha]; rfl

theorem sure_within {l l' : Limits} {S S' : List (List Hour)} {H : Nat} (hH : ∀ s ∈ S, s.length = H)
    (h : ∀ s' ∈ S', ∃ s ∈ S, s'.length = s.length ∧ ∀ j < s.length, alwaysB l (hourAt s (j : Int)) = true → alwaysB l' (hourAt s' (j : Int)) = true) :
    withinS (spansQ (fun i => S.all fun s => alwaysB l (hourAt s (i : Int))) H) (spansQ (fun i => S'.all fun s => alwaysB l' (hourAt s (i : Int))) H) H = true := by
  rw [withinS_iff]
  intro i hi ha
  rw [inSpans_spansQ, Bool.and_eq_true, List.all_eq_true] at ha
  rw [inSpans_spansQ, Bool.and_eq_true, List.all_eq_true]
  refine ⟨ha.1, fun s' hs' => ?_⟩
  obtain ⟨s, hs, hlen, hal⟩ := h s' hs'
  exact hal i (by rw [hH s hs]; exact hi) (ha.2 s hs)
end Go.Ab
namespace Go.Ab
open Go.RowKit Go.Proofs
set_option maxHeartbeats 4000000
set_option maxRecDepth 20000

/-! ### Plain laws: paths that are open in a weather -/

theorem limF_fold {P : Limits → Prop} (hP : ∀ a l, P (andL a l) ↔ P a ∧ P l) (b h : Int) : ∀ (rules : List Rule) (a : Limits),
    P (rules.foldl (fun l x => if decide (h - x.after ≤ b) then andL l x.lim else l) a) ↔ P a ∧ ∀ r ∈ rules, h - r.after ≤ b → P r.lim
  | [], a => by simp
  | r :: rules, a => by
    rw [List.foldl_cons, limF_fold hP b h rules]
    simp only [List.mem_cons, forall_eq_or_imp]
    by_cases hr : h - r.after ≤ b
    · rw [if_pos (by simpa using hr), hP]
      constructor
      · rintro ⟨⟨h1, h2⟩, h3⟩; exact ⟨h1, fun _ => h2, h3⟩
      · rintro ⟨h1, h2, h3⟩; exact ⟨⟨h1, h2 hr⟩, h3⟩
    · rw [if_neg (by simpa using hr)]
      constructor
      · rintro ⟨h1, h3⟩; exact ⟨h1, fun hc => absurd hc hr, h3⟩
      · rintro ⟨h1, _, h3⟩; exact ⟨h1, h3⟩
theorem limF_iff {P : Limits → Prop} (hP : ∀ a l, P (andL a l) ↔ P a ∧ P l) (rules : List Rule) (b h : Int) : P (limF rules b h) ↔ P wideL ∧ ∀ r ∈ rules, h - r.after ≤ b → P r.lim := limF_fold hP b h rules wideL

theorem kept_and {x : Sky} (a l : Limits) : keptB x (andL a l) = true ↔ keptB x a = true ∧ keptB x l = true := by
  rw [kept_iff, kept_iff, kept_iff]
  unfold andL
  dsimp only
  omega
theorem always_and {x : Hour} (a l : Limits) : alwaysB (andL a l) x = true ↔ alwaysB a x = true ∧ alwaysB l x = true := by
  rw [always_iff, always_iff, always_iff]
  unfold andL
  dsimp only
  omega

theorem keepsB_iff {kf : Limits → Hour → Bool} {rules : List Rule} {s : List Hour} {h : Nat} : keepsB kf rules s h = true ↔ ∀ b, b ≤ h → kf (limF rules (b : Int) (h : Int)) (hourAt s (b : Int)) = true := by
  unfold keepsB
  rw [List.all_eq_true]
  exact ⟨fun hh b hb => hh b (by simpa using Nat.lt_succ_of_le hb), fun hh b hb => hh b (by have := List.mem_range.1 hb; omega)⟩

/-- Whether a path is open by the rules in an hour of a weather. -/
def isOpenF (rules : List Rule) (m : List Sky) (p : Int) (h : Nat) : Bool :=
  rules.all fun r => !(r.path == p) || (List.range (h + 1)).all fun b => !(decide ((h : Int) - r.after ≤ (b : Int))) || keptB (skyAt m b) r.lim
theorem isOpen_iff {rules : List Rule} {m : List Sky} {p : Int} {h : Nat} : isOpenF rules m p h = true ↔ ∀ r ∈ ofPath rules p, ∀ b, b ≤ h → (h : Int) - r.after ≤ (b : Int) → keptB (skyAt m b) r.lim = true := by
  unfold isOpenF ofPath
  rw [List.all_eq_true]
  constructor
  · intro hh r hr b hb hab
    obtain ⟨hr1, hr2⟩ := List.mem_filter.1 hr
    have := hh r hr1
    rw [hr2] at this
    have := List.all_eq_true.1 (show (List.range (h + 1)).all (fun b => !(decide ((h : Int) - r.after ≤ (b : Int))) || keptB (skyAt m b) r.lim) = true by simpa using this) b (by simpa using Nat.lt_succ_of_le hb)
    rw [decide_eq_true hab] at this
    simpa using this
  · intro hh r hr
    cases hp : (r.path == p)
    · rfl
    · have hr' : r ∈ rules.filter (fun r => r.path == p) := List.mem_filter.2 ⟨hr, hp⟩
      simp only [Bool.not_true, Bool.false_or, List.all_eq_true]
      intro b hb
      have hb : b ≤ h := by have := List.mem_range.1 hb; omega
      by_cases hab : (h : Int) - r.after ≤ (b : Int)
      · rw [hh r hr' b hb hab]; simp
      · rw [decide_eq_false hab]; rfl

/-- A path that surely is open by a scenario is open in a weather of it, and one that is open in it may be. -/
theorem open_mid {rules : List Rule} {m : List Sky} {s : List Hour} {p : Int} (hin : ∀ j < m.length, insideB (skyAt m j) (hourAt s (j : Int)) = true) (hw : ∀ j < m.length, keptB (skyAt m j) wideL = true) {h : Nat} (hh : h < m.length) :
    (keepsB alwaysB (ofPath rules p) s h = true → isOpenF rules m p h = true) ∧ (isOpenF rules m p h = true → keepsB everB (ofPath rules p) s h = true) := by
  rw [keepsB_iff, keepsB_iff, isOpen_iff]
  constructor
  · intro ha r hr b hb hab
    have h1 := always_kept (hin b (by omega)) (ha b hb)
    exact ((limF_iff (P := fun l => keptB (skyAt m b) l = true) kept_and _ _ _).1 h1).2 r hr hab
  · intro ha b hb
    refine kept_ever (hin b (by omega)) ?_
    exact (limF_iff (P := fun l => keptB (skyAt m b) l = true) kept_and _ _ _).2 ⟨hw b (by omega), fun r hr hab => ha r hr b hb hab⟩

theorem we_wide {F : List (List Hour)} {seen : List Sight} (hg : ForeGood F) {m : List Sky} (h : weB F seen m = true) : ∀ j < m.length, keptB (skyAt m j) wideL = true := by
  obtain ⟨h1, _, l, hl, _, hin⟩ := we5_iff.1 h
  intro j hj
  have hlen := hg.len l hl
  have hh := hg.hour l hl _ (List.mem_of_getElem? (hourAt_get (i := (j : Int)) ⟨by omega, by omega⟩))
  have hi := inside5_iff.1 (hin j hj)
  unfold hourB at hh
  rw [Bool.and_eq_true, Bool.and_eq_true, ordered_iff, ordered_iff, ordered_iff] at hh
  rw [kept_iff]
  unfold wideL
  dsimp only
  omega

/-- What is opened at a minute by Safe. -/
theorem safe_in {opens sure : List Span} {t : Nat} (h : inSpans (safeOpens opens sure) (t : Int) = true) : inSpans opens (t : Int) = true ∧ inSpans sure ((t / 60 : Nat) : Int) = true := by
  have h2 : inSpans (spansQ (fun t => inSpans opens t && inSpans sure ((t / 60 : Nat) : Int)) 2881) (t : Int) = true := by
    unfold safeOpens at h
    unfold inSpans at h ⊢
    rw [List.any_eq_true] at h ⊢
    obtain ⟨x, hx, hb⟩ := h
    exact ⟨x, List.mem_of_mem_take hx, hb⟩
  rw [inSpans_spansQ, Bool.and_eq_true, Bool.and_eq_true] at h2
  exact h2.2

/-- One hour of one path: open surely, open in the weather, open maybe. -/
theorem closed_hour {F : List (List Hour)} {seen : List Sight} (hg : ForeGood F) (hsi : sightsB (hd0 F).length seen = true) {m : List Sky} (hwe : weB F seen m = true) (rules : List Rule) (p : Int) {h : Nat} (hh : h < m.length) :
    (inSpans (openS (ofPath rules p) (scensOf (possL F seen)) (hd0 F).length) (h : Int) = true → isOpenF rules m p h = true) ∧
    (isOpenF rules m p h = true → inSpans (openM (ofPath rules p) (scensOf (possL F seen)) (hd0 F).length) (h : Int) = true) := by
  obtain ⟨hl, s, hs, hsl, hin⟩ := we_in hg hsi hwe
  have hm := open_mid (rules := rules) (p := p) hin (we_wide hg hwe) hh
  unfold openS openM
  rw [inSpans_spansQ, inSpans_spansQ, Bool.and_eq_true, Bool.and_eq_true, List.all_eq_true, List.any_eq_true]
  exact ⟨fun ha => hm.1 (ha.2 s hs), fun ha => ⟨decide_eq_true (by omega), s, hs, hm.2 ha⟩⟩

/-! ### Eased rules -/

def easeR (wind rain temp less : Int) (r : Rule) : Rule := ⟨r.path, max 0 (r.after - less), widerL r.lim wind rain temp⟩

theorem ease_ok {n : Net} {rules : List Rule} {a b c d : Int} (h : badRules n rules = false) (ha : 0 ≤ a) (hb : 0 ≤ b) (hc : 0 ≤ c) (hd : 0 ≤ d) : badRules n (rules.map (easeR a b c d)) = false := by
  obtain ⟨h1, h2⟩ := rules_ok h
  unfold badRules
  rw [Bool.or_eq_false_iff]
  refine ⟨by rw [List.length_map]; exact decide_eq_false (by omega), List.any_eq_false.2 fun x hx => ?_⟩
  obtain ⟨r, hr, rfl⟩ := List.mem_map.1 hx
  obtain ⟨k1, k2, k3⟩ := h2 r hr
  have e1 : withinB r.path 0 ((n.paths.length : Int) - 1) = true := within_iff.2 k1
  have e2 : withinB (max 0 (r.after - d)) 0 48 = true := within_iff.2 (by omega)
  simp [wrongR, easeR, e1, e2, wider_lim k3 ha hb hc]

theorem ease_path {rules : List Rule} {a b c d p : Int} : ofPath (rules.map (easeR a b c d)) p = (ofPath rules p).map (easeR a b c d) := by
  unfold ofPath
  rw [List.filter_map]
  rfl

theorem ease_keeps {rules : List Rule} {a b c d : Int} (hl : ∀ r ∈ rules, limB r.lim = true) (ha : 0 ≤ a) (hb : 0 ≤ b) (hc : 0 ≤ c) (hd : 0 ≤ d) (hr : ∀ r ∈ rules, 0 ≤ r.after) {s : List Hour} {h : Nat} (hk : keepsB alwaysB rules s h = true) : keepsB alwaysB (rules.map (easeR a b c d)) s h = true := by
  rw [keepsB_iff] at hk ⊢
  intro x hx
  have := (limF_iff (P := fun l => alwaysB l (hourAt s (x : Int)) = true) always_and _ _ _).1 (hk x hx)
  refine (limF_iff (P := fun l => alwaysB l (hourAt s (x : Int)) = true) always_and _ _ _).2 ⟨this.1, fun r' hr' hab => ?_⟩
  obtain ⟨r, hrm, rfl⟩ := List.mem_map.1 hr'
  have hra := hr r hrm
  refine wider_always (hl r hrm) ha hb hc (this.2 r hrm ?_)
  unfold easeR at hab
  dsimp only at hab
  omega

theorem ease_within {rules : List Rule} {a b c d : Int} (hl : ∀ r ∈ rules, limB r.lim = true) (ha : 0 ≤ a) (hb : 0 ≤ b) (hc : 0 ≤ c) (hd : 0 ≤ d) (hr : ∀ r ∈ rules, 0 ≤ r.after) (S : List (List Hour)) (H : Nat) :
    withinS (openS rules S H) (openS (rules.map (easeR a b c d)) S H) H = true := by
  rw [withinS_iff]
  unfold openS
  intro i hi hin
  rw [inSpans_spansQ, Bool.and_eq_true, List.all_eq_true] at hin
  rw [inSpans_spansQ, Bool.and_eq_true, List.all_eq_true]
  exact ⟨hin.1, fun s hs => ease_keeps hl ha hb hc hd hr (hin.2 s hs)⟩
end Go.Ab
namespace Go.Ab
open Go.RowKit Go.Proofs
set_option maxHeartbeats 4000000
set_option maxRecDepth 20000

/-! ### Plain laws: what WeatherTrue says of an hour; hours without a window, told one by one -/

theorem hour_true {F : List (List Hour)} {seen : List Sight} (hg : ForeGood F) (hsi : sightsB (hd0 F).length seen = true) {m : List Sky} (hwe : weB F seen m = true) (l : Limits) {h : Nat} (hh : h < m.length) :
    insideB (skyAt m h) (hullAll (scensOf (possL F seen)) (h : Int)) = true ∧
    (inSpans (spansQ (fun i => (scensOf (possL F seen)).all fun s => alwaysB l (hourAt s (i : Int))) (hd0 F).length) (h : Int) = true → keptB (skyAt m h) l = true) ∧
    (keptB (skyAt m h) l = true → inSpans (spansQ (fun i => (scensOf (possL F seen)).any fun s => everB l (hourAt s (i : Int))) (hd0 F).length) (h : Int) = true) := by
  obtain ⟨hl, s, hs, hsl, hin⟩ := we_in hg hsi hwe
  refine ⟨inside_all hs (hin h hh), ?_, ?_⟩
  · rw [inSpans_spansQ, Bool.and_eq_true, List.all_eq_true]
    exact fun ha => always_kept (hin h hh) (ha.2 s hs)
  · rw [inSpans_spansQ, Bool.and_eq_true, List.any_eq_true]
    exact fun ha => ⟨decide_eq_true (by omega), s, hs, kept_ever (hin h hh) ha⟩

theorem begin_take {L : List Bool} {n h j : Nat} (hn : 1 ≤ n) : IsBegin (L.take j) n h ↔ IsBegin L n h ∧ h + n ≤ j := by
  constructor
  · intro hb
    refine ⟨fun k h1 h2 => ?_, ?_⟩
    · have := hb k h1 h2
      rw [List.getElem?_take] at this
      split at this
      · exact this
      · cases this
    · have := hb (h + n - 1) (by omega) (by omega)
      rw [List.getElem?_take] at this
      split at this
      · omega
      · cases this
  · rintro ⟨hb, hj⟩ k h1 h2
    rw [List.getElem?_take, if_pos (by omega)]
    exact hb k h1 h2

/-- A list of hours from one hour on, so many of them, lacks a window exactly if they are at most this many. -/
theorem lack_iff {b : List Bool} {n : Nat} (hn : 1 ≤ n) {a j : Nat} (hj : a + j ≤ b.length) : beginsF ((b.drop a).take j) n < 0 ↔ (j : Int) ≤ gapAt b n a := by
  unfold gapAt
  have hlen : (b.drop a).length = b.length - a := List.length_drop ..
  rcases begins_spec hn (b.drop a) with ⟨h1, h2⟩ | ⟨r, h1, h2, h3⟩
  · have : beginsF ((b.drop a).take j) n = -1 := begins_no hn fun h' hb => h2 h' ((begin_take hn).1 hb).1
    rw [this, h1]
    simp
    omega
  · rw [h1, if_pos (by simp)]
    by_cases hc : r + n ≤ j
    · have := begins_of hn ((begin_take hn).2 ⟨h2, hc⟩)
      omega
    · have : beginsF ((b.drop a).take j) n = -1 := begins_no hn fun h' hb => by
        have := (begin_take hn).1 hb
        by_cases hlt : h' < r
        · exact h3 h' hlt this.1
        · omega
      omega
theorem gapAt_range {b : List Bool} {n : Nat} (hn : 1 ≤ n) {a : Nat} (ha : a ≤ b.length) : 0 ≤ gapAt b n a ∧ gapAt b n a ≤ (b.length : Int) - a := by
  unfold gapAt
  have hlen : (b.drop a).length = b.length - a := List.length_drop ..
  by_cases h : 0 ≤ beginsF (b.drop a) n
  · have := begins_end hn h
    rw [if_pos (by simpa using h)]
    omega
  · rw [if_neg (by simpa using h)]
    omega

/-- Whether a window begins at an hour, looked at so far. -/
def allTo (b : List Bool) (h j : Nat) : Bool := ((b.drop h).take j).all id
theorem allTo_succ {b : List Bool} {h j : Nat} {x : Bool} (hx : b[h + j]? = some x) : allTo b h (j + 1) = (allTo b h j && x) := by
  unfold allTo
  rw [List.take_add_one, List.getElem?_drop, hx, List.all_append]
  simp
theorem allTo_iff {b : List Bool} {h n : Nat} (hl : h + n ≤ b.length) : allTo b h n = true ↔ IsBegin b n h := by
  unfold allTo IsBegin
  rw [List.all_eq_true]
  constructor
  · intro ha k h1 h2
    obtain ⟨x, hx⟩ : ∃ x, b[k]? = some x := ⟨_, List.getElem?_eq_getElem (by omega)⟩
    have hm : x ∈ (b.drop h).take n := by
      refine List.mem_of_getElem? (i := k - h) ?_
      rw [List.getElem?_take, if_pos (by omega), List.getElem?_drop, show h + (k - h) = k by omega, hx]
    have := ha x hm
    rw [hx]
    simpa using this
  · intro ha x hx
    obtain ⟨i, hi⟩ := List.getElem?_of_mem hx
    rw [List.getElem?_take] at hi
    split at hi
    · rw [List.getElem?_drop, ha (h + i) (by omega) (by omega)] at hi
      cases hi
      rfl
    · cases hi
end Go.Ab
namespace Go.Ab
open Go.RowKit Go.Proofs
set_option maxHeartbeats 4000000
set_option maxRecDepth 20000
attribute [local irreducible] WalkL Walk

/-! ### WeatherTrue -/

theorem f31 (l : List Span) (n : Int) (hl : l.length < 2 ^ 30) : Fn Tryd.prog 31 [.sl (spanRows l), .i n] (.bool (inSpans l n)) := by
  refine fn_walk 28 Tryd.call31 Tryd.func31 rfl (by decide) fun J => ?_
  simp (maxSteps := 4000000) only [go_sem, St.start, Tryd.ntmps31, Tryd.results31]
  repeat (first | refine walkL_seq ?_ | refine walkL_skip ?_ | refine walkL_block ?_ | (refine walkL_region fun K hK => ?_; simp (maxSteps := 4000000) only [go_sem, spanRows_len]; refine hK _ ?_; clear hK K) | refine walkL_nil ?_ | refine walkL_ret ?_ | refine walkL_exit ?_ | refine blockA_here ?_ | refine blockA_other rfl ?_ | refine blockA_ret ?_ | refine blockA_normal ?_ | refine thenA_ret ?_ | refine thenA_exit ?_ | refine thenA_normal ?_)
  refine walkL_loopS (fun (i : Nat) => [(5, .d (.i i))]) (fun _ => []) (fun i => i ≤ l.length ∧ (l.take i).any (fun s => withinB n s.lo s.hi) = false) (fun i => l.length - i) 0 ?_ ⟨Nat.zero_le _, by simp⟩ ?_
  · simp (maxSteps := 4000000) only [go_sem]
    refine weak_of [] ?_ ?_ rfl rfl <;> simp [lessT, lessM, lessB, AV.less]
  · intro i ⟨hi, hf⟩
    simp (maxSteps := 4000000) only [go_sem]
    repeat (first | refine walkL_seq ?_ | refine walkL_skip ?_ | refine walkL_block ?_ | (refine walkL_region fun K hK => ?_; simp (maxSteps := 4000000) only [go_sem, spanRows_len]; refine hK _ ?_; clear hK K) | refine walkL_nil ?_ | refine walkL_ret ?_ | refine walkL_exit ?_ | refine blockA_here ?_ | refine blockA_other rfl ?_ | refine blockA_ret ?_ | refine blockA_normal ?_ | refine thenA_ret ?_ | refine thenA_exit ?_ | refine thenA_normal ?_)
    refine walkL_cond rfl (fun hb => ?_) (fun hb => ?_)
    · have hlt : i < l.length := by simpa using hb
      have hw : IntKind.i64.wrap ((i : Int) + 1) = ((i + 1 : Nat) : Int) := by rw [wr_small (by omega)]; simp
      obtain ⟨s, hs⟩ : ∃ s, l[i]? = some s := ⟨_, List.getElem?_eq_getElem hlt⟩
      have g1 := spanRows_at hs
      rw [Span.row] at g1
      have hw' : withinB n s.lo s.hi = (decide (s.lo ≤ n) && decide (n ≤ s.hi)) := by simp [withinB]
      have hnx : (l.take (i + 1)).any (fun s => withinB n s.lo s.hi) = withinB n s.lo s.hi := by
        rw [List.take_add_one, hs, List.any_append, hf]; simp
      cases q1 : decide (s.lo ≤ n) <;> cases q2 : decide (n ≤ s.hi)
      all_goals
        rw [q1, q2] at hw'
        repeat (first | refine walkL_true rfl ?_ | refine walkL_false rfl ?_ | refine walkL_seq ?_ | refine walkL_skip ?_ | refine walkL_block ?_ | (refine walkL_region fun K hK => ?_; simp (maxSteps := 4000000) only [go_sem, g1, q1, q2, hw]; refine hK _ ?_; clear hK K) | refine walkL_nil ?_ | refine walkL_ret ?_ | refine walkL_exit ?_ | refine blockA_here ?_ | refine blockA_other rfl ?_ | refine blockA_ret ?_ | refine blockA_normal ?_ | refine thenA_ret ?_ | refine thenA_exit ?_ | refine thenA_normal ?_)
      all_goals first
        | (refine ⟨rfl, i + 1, ?_, ⟨hlt, by rw [hnx, hw']; rfl⟩, by omega⟩
           refine weak_of [] ?_ ?_ rfl rfl <;> simp [lessT, lessM, lessB, AV.less]
           done)
        | (have e : inSpans l n = true := List.any_eq_true.2 ⟨s, List.mem_of_getElem? hs, hw'⟩
           simp (maxSteps := 4000000) only [go_sem, e]
           done)
    · have he : i = l.length := by (have : ¬ i < l.length := by simpa using hb); omega
      subst he
      rw [List.take_length] at hf
      have e : inSpans l n = false := hf
      repeat (first | refine walkL_seq ?_ | refine walkL_skip ?_ | refine walkL_block ?_ | (refine walkL_region fun K hK => ?_; simp (maxSteps := 4000000) only [go_sem]; refine hK _ ?_; clear hK K) | refine walkL_nil ?_ | refine walkL_ret ?_ | refine walkL_exit ?_ | refine blockA_here ?_ | refine blockA_other rfl ?_ | refine blockA_ret ?_ | refine blockA_normal ?_ | refine thenA_ret ?_ | refine thenA_exit ?_ | refine thenA_normal ?_)
      simp (maxSteps := 4000000) only [go_sem, e]

def weathersB (F : List (List Hour)) (seen : List Sight) (m : List Sky) : Bool := !far5 F seen && (decide (seenF F seen = 0) && weB F seen m)
theorem f17 (F : List (List Hour)) (seen : List Sight) (m : List Sky) (hs : ForeSmall F) (hsl : seen.length < 2 ^ 30) :
    Fn Tryd.prog 17 [.agg [.sl (scenRows F)], .sl (sightRows seen), .sl (skyRows m)] (.bool (weathersB F seen m)) := by
  have h7 := f7 F seen hs
  have h8 := f8 F seen hs hsl
  have hsv := seen_vals F seen true
  unfold weathersB
  obtain ⟨e, he⟩ : ∃ e, e = seenF F seen := ⟨_, rfl⟩
  rw [← he] at h8 hsv ⊢
  cases q : far5 F seen
  · rw [q] at h7
    by_cases h0 : e = 0
    · obtain ⟨hg, hsi, _⟩ := hsv.2 h0
      have h50 := f50 F seen m hg hsi
      have hz : (e == 0) = true := by simpa using h0
      have hd : decide (e = 0) = true := by simpa using h0
      rw [hd]
      obtain ⟨w, hw⟩ : ∃ w, w = weB F seen m := ⟨_, rfl⟩
      rw [← hw] at h50 ⊢
      refine fn_walk 23 Tryd.call17 Tryd.func17 rfl (by decide) fun J => ?_
      simp (maxSteps := 4000000) only [go_sem, St.start, Tryd.ntmps17, Tryd.results17]
      repeat (first | refine walkL_true rfl ?_ | refine walkL_false rfl ?_ | refine walkL_seq ?_ | refine walkL_skip ?_ | refine walkL_block ?_ | (refine walkL_region fun K hK => ?_; simp (maxSteps := 4000000) only [go_sem, hz]; (repeat (first | (refine ⟨_, .lent (hf := h7) (hd := rfl) (hr := rfl), ?_⟩; simp (maxSteps := 4000000) only [go_sem, hz]) | (refine ⟨_, .lent (hf := h8) (hd := rfl) (hr := rfl), ?_⟩; simp (maxSteps := 4000000) only [go_sem, hz]) | (refine ⟨_, .lent (hf := h50) (hd := rfl) (hr := rfl), ?_⟩; simp (maxSteps := 4000000) only [go_sem, hz]) | (refine ⟨_, .given (hf := h7) (hd := rfl) (ha := rfl), ?_⟩; simp (maxSteps := 4000000) only [go_sem, hz]) | (refine ⟨_, .given (hf := h8) (hd := rfl) (ha := rfl), ?_⟩; simp (maxSteps := 4000000) only [go_sem, hz]) | (refine ⟨_, .given (hf := h50) (hd := rfl) (ha := rfl), ?_⟩; simp (maxSteps := 4000000) only [go_sem, hz]))); refine hK _ ?_; clear hK K) | refine walkL_nil ?_ | refine walkL_ret ?_ | refine walkL_exit ?_ | refine blockA_here ?_ | refine blockA_other rfl ?_ | refine blockA_ret ?_ | refine blockA_normal ?_ | refine thenA_ret ?_ | refine thenA_exit ?_ | refine thenA_normal ?_)
      simp (maxSteps := 4000000) only [go_sem]
    · have hz : (e == 0) = false := by simpa using h0
      have hd : decide (e = 0) = false := by simpa using h0
      rw [hd]
      refine fn_walk 23 Tryd.call17 Tryd.func17 rfl (by decide) fun J => ?_
      simp (maxSteps := 4000000) only [go_sem, St.start, Tryd.ntmps17, Tryd.results17]
      repeat (first | refine walkL_true rfl ?_ | refine walkL_false rfl ?_ | refine walkL_seq ?_ | refine walkL_skip ?_ | refine walkL_block ?_ | (refine walkL_region fun K hK => ?_; simp (maxSteps := 4000000) only [go_sem, hz]; (repeat (first | (refine ⟨_, .lent (hf := h7) (hd := rfl) (hr := rfl), ?_⟩; simp (maxSteps := 4000000) only [go_sem, hz]) | (refine ⟨_, .lent (hf := h8) (hd := rfl) (hr := rfl), ?_⟩; simp (maxSteps := 4000000) only [go_sem, hz]) | (refine ⟨_, .given (hf := h7) (hd := rfl) (ha := rfl), ?_⟩; simp (maxSteps := 4000000) only [go_sem, hz]) | (refine ⟨_, .given (hf := h8) (hd := rfl) (ha := rfl), ?_⟩; simp (maxSteps := 4000000) only [go_sem, hz]))); refine hK _ ?_; clear hK K) | refine walkL_nil ?_ | refine walkL_ret ?_ | refine walkL_exit ?_ | refine blockA_here ?_ | refine blockA_other rfl ?_ | refine blockA_ret ?_ | refine blockA_normal ?_ | refine thenA_ret ?_ | refine thenA_exit ?_ | refine thenA_normal ?_)
      simp (maxSteps := 4000000) only [go_sem]
  · rw [q] at h7
    refine fn_walk 23 Tryd.call17 Tryd.func17 rfl (by decide) fun J => ?_
    simp (maxSteps := 4000000) only [go_sem, St.start, Tryd.ntmps17, Tryd.results17]
    repeat (first | refine walkL_true rfl ?_ | refine walkL_false rfl ?_ | refine walkL_seq ?_ | refine walkL_skip ?_ | refine walkL_block ?_ | (refine walkL_region fun K hK => ?_; simp (maxSteps := 4000000) only [go_sem]; (repeat (first | (refine ⟨_, .lent (hf := h7) (hd := rfl) (hr := rfl), ?_⟩; simp (maxSteps := 4000000) only [go_sem]) | (refine ⟨_, .given (hf := h7) (hd := rfl) (ha := rfl), ?_⟩; simp (maxSteps := 4000000) only [go_sem]))); refine hK _ ?_; clear hK K) | refine walkL_nil ?_ | refine walkL_ret ?_ | refine walkL_exit ?_ | refine blockA_here ?_ | refine blockA_other rfl ?_ | refine blockA_ret ?_ | refine blockA_normal ?_ | refine thenA_ret ?_ | refine thenA_exit ?_ | refine thenA_normal ?_)
    simp (maxSteps := 4000000) only [go_sem]
theorem weathers_iff {F : List (List Hour)} {seen : List Sight} {m : List Sky} (h : weathersB F seen m = true) : far5 F seen = false ∧ ForeGood F ∧ sightsB (hd0 F).length seen = true ∧ weB F seen m = true := by
  unfold weathersB at h
  simp only [Bool.and_eq_true, Bool.not_eq_true', decide_eq_true_eq] at h
  have := (seen_vals F seen true).2 h.2.1
  exact ⟨h.1, this.1, this.2.1, h.2.2⟩

end Go.Ab
namespace Go.Ab
open Go.RowKit Go.Proofs
set_option maxHeartbeats 8000000
set_option maxRecDepth 20000
attribute [local irreducible] WalkL Walk

theorem keeps_ok {F : List (List Hour)} {seen : List Sight} {l : Limits} (h : lookF F seen 0 true = 0) (hl : limB l = true) :
    keepsF F seen l = (spansQ (fun i => (scensOf (possL F seen)).all fun s => alwaysB l (hourAt s (i : Int))) (hd0 F).length, spansQ (fun i => (scensOf (possL F seen)).any fun s => everB l (hourAt s (i : Int))) (hd0 F).length, 0) := by
  unfold keepsF limE
  rw [if_pos hl, if_pos h]

theorem range_ok {F : List (List Hour)} {seen : List Sight} {h : Nat} (hk : lookF F seen 0 true = 0) (hh : h < (hd0 F).length) : rangeF F seen (h : Int) = (hullAll (scensOf (possL F seen)) (h : Int), 0) := by
  have hw : withinB (h : Int) 0 ((hd0 F).length - 1) = true := within_iff.2 (by omega)
  unfold rangeF
  rw [hw, if_pos hk]

theorem f6 (F : List (List Hour)) (x : RealX) (hs : ForeSmall F) (hsl : x.seen.length < 2 ^ 30) (hkl : x.skies.length < 2 ^ 30) : Fn Tryd.prog 6 [.agg [.sl (scenRows F)], .agg x.cells] (.bool true) := by
  obtain ⟨seen, m, l, len⟩ := x
  dsimp only at hsl hkl
  unfold RealX.cells
  dsimp only
  have h10 := f10
  have h17 := f17 F seen m hs hsl
  have h9 := f9 l
  rw [Limits.row] at h9
  cases q1 : decide ((m.length : Int) > 60)
  · cases q2 : weathersB F seen m
    · rw [q2] at h17
      refine fn_walk 98 Tryd.call6 Tryd.func6 rfl (by decide) fun J => ?_
      simp (maxSteps := 4000000) only [go_sem, St.start, Tryd.ntmps6, Tryd.results6]
      repeat (first | refine walkL_true rfl ?_ | refine walkL_false rfl ?_ | refine walkL_seq ?_ | refine walkL_skip ?_ | refine walkL_block ?_ | (refine walkL_region fun K hK => ?_; simp (maxSteps := 4000000) only [go_sem, q1, skyRows_len]; (repeat (first | (refine ⟨_, .lent (hf := h10) (hd := rfl) (hr := rfl), ?_⟩; simp (maxSteps := 4000000) only [go_sem, q1, skyRows_len]) | (refine ⟨_, .lent (hf := h17) (hd := rfl) (hr := rfl), ?_⟩; simp (maxSteps := 4000000) only [go_sem, q1, skyRows_len]) | (refine ⟨_, .given (hf := h10) (hd := rfl) (ha := rfl), ?_⟩; simp (maxSteps := 4000000) only [go_sem, q1, skyRows_len]) | (refine ⟨_, .given (hf := h17) (hd := rfl) (ha := rfl), ?_⟩; simp (maxSteps := 4000000) only [go_sem, q1, skyRows_len]))); refine hK _ ?_; clear hK K) | refine walkL_nil ?_ | refine walkL_ret ?_ | refine walkL_exit ?_ | refine blockA_here ?_ | refine blockA_other rfl ?_ | refine blockA_ret ?_ | refine blockA_normal ?_ | refine thenA_ret ?_ | refine thenA_exit ?_ | refine thenA_normal ?_)
      simp (maxSteps := 4000000) only [go_sem]
    · rw [q2] at h17
      cases q3 : limB l
      · rw [q3] at h9
        refine fn_walk 98 Tryd.call6 Tryd.func6 rfl (by decide) fun J => ?_
        simp (maxSteps := 4000000) only [go_sem, St.start, Tryd.ntmps6, Tryd.results6]
        repeat (first | refine walkL_true rfl ?_ | refine walkL_false rfl ?_ | refine walkL_seq ?_ | refine walkL_skip ?_ | refine walkL_block ?_ | (refine walkL_region fun K hK => ?_; simp (maxSteps := 4000000) only [go_sem, q1, skyRows_len]; (repeat (first | (refine ⟨_, .lent (hf := h10) (hd := rfl) (hr := rfl), ?_⟩; simp (maxSteps := 4000000) only [go_sem, q1, skyRows_len]) | (refine ⟨_, .lent (hf := h17) (hd := rfl) (hr := rfl), ?_⟩; simp (maxSteps := 4000000) only [go_sem, q1, skyRows_len]) | (refine ⟨_, .lent (hf := h9) (hd := rfl) (hr := rfl), ?_⟩; simp (maxSteps := 4000000) only [go_sem, q1, skyRows_len]) | (refine ⟨_, .given (hf := h10) (hd := rfl) (ha := rfl), ?_⟩; simp (maxSteps := 4000000) only [go_sem, q1, skyRows_len]) | (refine ⟨_, .given (hf := h17) (hd := rfl) (ha := rfl), ?_⟩; simp (maxSteps := 4000000) only [go_sem, q1, skyRows_len]) | (refine ⟨_, .given (hf := h9) (hd := rfl) (ha := rfl), ?_⟩; simp (maxSteps := 4000000) only [go_sem, q1, skyRows_len]))); refine hK _ ?_; clear hK K) | refine walkL_nil ?_ | refine walkL_ret ?_ | refine walkL_exit ?_ | refine blockA_here ?_ | refine blockA_other rfl ?_ | refine blockA_ret ?_ | refine blockA_normal ?_ | refine thenA_ret ?_ | refine thenA_exit ?_ | refine thenA_normal ?_)
        simp (maxSteps := 4000000) only [go_sem]
      · rw [q3] at h9
        obtain ⟨hf, hg, hsi, hwe⟩ := weathers_iff q2
        have hH := (we_in hg hsi hwe).1
        have hlk := look_mk hg hsi (we_poss hg hsi hwe)
        have h13 := f13 F seen l hs hsl
        rw [keeps_ok hlk q3] at h13
        have hall := fun h (hh : h < m.length) => hour_true hg hsi hwe l hh
        have hran := fun h (hh : h < m.length) => range_ok (h := h) hlk (by omega)
        obtain ⟨A, hA⟩ : ∃ A, A = spansQ (fun i => (scensOf (possL F seen)).all fun s => alwaysB l (hourAt s (i : Int))) (hd0 F).length := ⟨_, rfl⟩
        obtain ⟨B, hB⟩ : ∃ B, B = spansQ (fun i => (scensOf (possL F seen)).any fun s => everB l (hourAt s (i : Int))) (hd0 F).length := ⟨_, rfl⟩
        have hHl := hg.hours
        have lA : A.length < 2 ^ 30 := by have := spansQ_len (fun i => (scensOf (possL F seen)).all fun s => alwaysB l (hourAt s (i : Int))) (hd0 F).length; rw [hA]; omega
        have lB : B.length < 2 ^ 30 := by have := spansQ_len (fun i => (scensOf (possL F seen)).any fun s => everB l (hourAt s (i : Int))) (hd0 F).length; rw [hB]; omega
        rw [← hA, ← hB] at h13 hall
        dsimp only at h13
        rw [Limits.row] at h13
        refine fn_walk 98 Tryd.call6 Tryd.func6 rfl (by decide) fun J => ?_
        simp (maxSteps := 4000000) only [go_sem, St.start, Tryd.ntmps6, Tryd.results6]
        repeat (first | refine walkL_true rfl ?_ | refine walkL_false rfl ?_ | refine walkL_seq ?_ | refine walkL_skip ?_ | refine walkL_block ?_ | (refine walkL_region fun K hK => ?_; simp (maxSteps := 4000000) only [go_sem, q1, skyRows_len]; (repeat (first | (refine ⟨_, .lent (hf := h10) (hd := rfl) (hr := rfl), ?_⟩; simp (maxSteps := 4000000) only [go_sem, q1, skyRows_len]) | (refine ⟨_, .lent (hf := h17) (hd := rfl) (hr := rfl), ?_⟩; simp (maxSteps := 4000000) only [go_sem, q1, skyRows_len]) | (refine ⟨_, .lent (hf := h9) (hd := rfl) (hr := rfl), ?_⟩; simp (maxSteps := 4000000) only [go_sem, q1, skyRows_len]) | (refine ⟨_, .lent (hf := h13) (hd := rfl) (hr := rfl), ?_⟩; simp (maxSteps := 4000000) only [go_sem, q1, skyRows_len]) | (refine ⟨_, .given (hf := h10) (hd := rfl) (ha := rfl), ?_⟩; simp (maxSteps := 4000000) only [go_sem, q1, skyRows_len]) | (refine ⟨_, .given (hf := h17) (hd := rfl) (ha := rfl), ?_⟩; simp (maxSteps := 4000000) only [go_sem, q1, skyRows_len]) | (refine ⟨_, .given (hf := h9) (hd := rfl) (ha := rfl), ?_⟩; simp (maxSteps := 4000000) only [go_sem, q1, skyRows_len]) | (refine ⟨_, .given (hf := h13) (hd := rfl) (ha := rfl), ?_⟩; simp (maxSteps := 4000000) only [go_sem, q1, skyRows_len]))); refine hK _ ?_; clear hK K) | refine walkL_nil ?_ | refine walkL_ret ?_ | refine walkL_exit ?_ | refine blockA_here ?_ | refine blockA_other rfl ?_ | refine blockA_ret ?_ | refine blockA_normal ?_ | refine thenA_ret ?_ | refine thenA_exit ?_ | refine thenA_normal ?_)
        refine walkL_loopS (fun (i : Nat) => [(8, .d (.i i))]) (fun _ => []) (fun i => i ≤ m.length) (fun i => m.length - i) 0 ?_ (Nat.zero_le _) ?_
        · simp (maxSteps := 4000000) only [go_sem]
          refine weak_of [] ?_ ?_ rfl rfl <;> simp [lessT, lessM, lessB, AV.less]
        · intro i hi
          simp (maxSteps := 4000000) only [go_sem]
          repeat (first | refine walkL_seq ?_ | refine walkL_skip ?_ | refine walkL_block ?_ | (refine walkL_region fun K hK => ?_; simp (maxSteps := 4000000) only [go_sem, skyRows_len]; refine hK _ ?_; clear hK K) | refine walkL_nil ?_ | refine walkL_ret ?_ | refine walkL_exit ?_ | refine blockA_here ?_ | refine blockA_other rfl ?_ | refine blockA_ret ?_ | refine blockA_normal ?_ | refine thenA_ret ?_ | refine thenA_exit ?_ | refine thenA_normal ?_)
          refine walkL_cond rfl (fun hb => ?_) (fun hb => ?_)
          · have hlt : i < m.length := by simpa using hb
            have hw : IntKind.i64.wrap ((i : Int) + 1) = ((i + 1 : Nat) : Int) := by rw [wr_small (by omega)]; simp
            have g1 := skyRows_at (skyAt_get hlt)
            obtain ⟨t1, t2, t3⟩ := hall i hlt
            have h27 := f27 F seen (i : Int) hs hsl
            rw [hran i hlt] at h27
            dsimp only at h27
            have h29 := f29 (skyAt m i) l
            have h30 := f30 (skyAt m i) (hullAll (scensOf (possL F seen)) (i : Int))
            have hs1 := f31 A (i : Int) lA
            have hs2 := f31 B (i : Int) lB
            rw [t1] at h30
            obtain ⟨o, ho⟩ : ∃ o, o = hullAll (scensOf (possL F seen)) (i : Int) := ⟨_, rfl⟩
            rw [← ho] at h27 h30
            obtain ⟨s, hse⟩ : ∃ s, s = skyAt m i := ⟨_, rfl⟩
            rw [← hse] at g1 h29 h30 t2 t3
            rw [Sky.row] at g1 h29 h30
            rw [Hour.row] at h27 h30
            rw [Limits.row] at h29
            obtain ⟨a, ha⟩ : ∃ a, a = inSpans A (i : Int) := ⟨_, rfl⟩
            obtain ⟨b, hb'⟩ : ∃ b, b = inSpans B (i : Int) := ⟨_, rfl⟩
            obtain ⟨k, hk⟩ : ∃ k, k = keptB s l := ⟨_, rfl⟩
            rw [← ha] at hs1 t2
            rw [← hb'] at hs2 t3
            rw [← hk] at h29 t2 t3
            have hc : (a = false ∧ k = false) ∨ (k = true ∧ b = true) := by
              cases a <;> cases b <;> cases k <;> simp_all
            rcases hc with ⟨rfl, rfl⟩ | ⟨rfl, rfl⟩
            · repeat (first | refine walkL_true rfl ?_ | refine walkL_false rfl ?_ | refine walkL_seq ?_ | refine walkL_skip ?_ | refine walkL_block ?_ | (refine walkL_region fun K hK => ?_; simp (maxSteps := 4000000) only [go_sem, g1, hw]; (repeat (first | (refine ⟨_, .lent (hf := h27) (hd := rfl) (hr := rfl), ?_⟩; simp (maxSteps := 4000000) only [go_sem, g1, hw]) | (refine ⟨_, .lent (hf := h29) (hd := rfl) (hr := rfl), ?_⟩; simp (maxSteps := 4000000) only [go_sem, g1, hw]) | (refine ⟨_, .lent (hf := h30) (hd := rfl) (hr := rfl), ?_⟩; simp (maxSteps := 4000000) only [go_sem, g1, hw]) | (refine ⟨_, .lent (hf := hs1) (hd := rfl) (hr := rfl), ?_⟩; simp (maxSteps := 4000000) only [go_sem, g1, hw]) | (refine ⟨_, .given (hf := h27) (hd := rfl) (ha := rfl), ?_⟩; simp (maxSteps := 4000000) only [go_sem, g1, hw]) | (refine ⟨_, .given (hf := h29) (hd := rfl) (ha := rfl), ?_⟩; simp (maxSteps := 4000000) only [go_sem, g1, hw]) | (refine ⟨_, .given (hf := h30) (hd := rfl) (ha := rfl), ?_⟩; simp (maxSteps := 4000000) only [go_sem, g1, hw]) | (refine ⟨_, .given (hf := hs1) (hd := rfl) (ha := rfl), ?_⟩; simp (maxSteps := 4000000) only [go_sem, g1, hw]))); refine hK _ ?_; clear hK K) | (refine walkL_drawn (by kernel_rfl) (by kernel_rfl) fun K hK => ?_; simp (maxSteps := 4000000) only [go_sem, g1, hw]; (repeat (first | (refine ⟨_, .fn (hf := h27) (hd := rfl) (hr := .inl rfl), ?_⟩; simp (maxSteps := 4000000) only [go_sem, g1, hw]) | (refine ⟨_, .fn (hf := h29) (hd := rfl) (hr := .inl rfl), ?_⟩; simp (maxSteps := 4000000) only [go_sem, g1, hw]) | (refine ⟨_, .fn (hf := h30) (hd := rfl) (hr := .inl rfl), ?_⟩; simp (maxSteps := 4000000) only [go_sem, g1, hw]) | (refine ⟨_, .fn (hf := hs1) (hd := rfl) (hr := .inl rfl), ?_⟩; simp (maxSteps := 4000000) only [go_sem, g1, hw]))); refine ⟨by kernel_rfl, hK _ ?_⟩; clear hK K) | refine walkL_nil ?_ | refine walkL_ret ?_ | refine walkL_exit ?_ | refine blockA_here ?_ | refine blockA_other rfl ?_ | refine blockA_ret ?_ | refine blockA_normal ?_ | refine thenA_ret ?_ | refine thenA_exit ?_ | refine thenA_normal ?_)
              refine ⟨rfl, i + 1, ?_, hlt, by omega⟩
              refine weak_of [] ?_ ?_ rfl rfl <;> simp [lessT, lessM, lessB, AV.less]
            · cases a
              all_goals
                repeat (first | refine walkL_true rfl ?_ | refine walkL_false rfl ?_ | refine walkL_seq ?_ | refine walkL_skip ?_ | refine walkL_block ?_ | (refine walkL_region fun K hK => ?_; simp (maxSteps := 4000000) only [go_sem, g1, hw]; (repeat (first | (refine ⟨_, .lent (hf := h27) (hd := rfl) (hr := rfl), ?_⟩; simp (maxSteps := 4000000) only [go_sem, g1, hw]) | (refine ⟨_, .lent (hf := h29) (hd := rfl) (hr := rfl), ?_⟩; simp (maxSteps := 4000000) only [go_sem, g1, hw]) | (refine ⟨_, .lent (hf := h30) (hd := rfl) (hr := rfl), ?_⟩; simp (maxSteps := 4000000) only [go_sem, g1, hw]) | (refine ⟨_, .lent (hf := hs1) (hd := rfl) (hr := rfl), ?_⟩; simp (maxSteps := 4000000) only [go_sem, g1, hw]) | (refine ⟨_, .lent (hf := hs2) (hd := rfl) (hr := rfl), ?_⟩; simp (maxSteps := 4000000) only [go_sem, g1, hw]) | (refine ⟨_, .given (hf := h27) (hd := rfl) (ha := rfl), ?_⟩; simp (maxSteps := 4000000) only [go_sem, g1, hw]) | (refine ⟨_, .given (hf := h29) (hd := rfl) (ha := rfl), ?_⟩; simp (maxSteps := 4000000) only [go_sem, g1, hw]) | (refine ⟨_, .given (hf := h30) (hd := rfl) (ha := rfl), ?_⟩; simp (maxSteps := 4000000) only [go_sem, g1, hw]) | (refine ⟨_, .given (hf := hs1) (hd := rfl) (ha := rfl), ?_⟩; simp (maxSteps := 4000000) only [go_sem, g1, hw]) | (refine ⟨_, .given (hf := hs2) (hd := rfl) (ha := rfl), ?_⟩; simp (maxSteps := 4000000) only [go_sem, g1, hw]))); refine hK _ ?_; clear hK K) | (refine walkL_drawn (by kernel_rfl) (by kernel_rfl) fun K hK => ?_; simp (maxSteps := 4000000) only [go_sem, g1, hw]; (repeat (first | (refine ⟨_, .fn (hf := h27) (hd := rfl) (hr := .inl rfl), ?_⟩; simp (maxSteps := 4000000) only [go_sem, g1, hw]) | (refine ⟨_, .fn (hf := h29) (hd := rfl) (hr := .inl rfl), ?_⟩; simp (maxSteps := 4000000) only [go_sem, g1, hw]) | (refine ⟨_, .fn (hf := h30) (hd := rfl) (hr := .inl rfl), ?_⟩; simp (maxSteps := 4000000) only [go_sem, g1, hw]) | (refine ⟨_, .fn (hf := hs1) (hd := rfl) (hr := .inl rfl), ?_⟩; simp (maxSteps := 4000000) only [go_sem, g1, hw]) | (refine ⟨_, .fn (hf := hs2) (hd := rfl) (hr := .inl rfl), ?_⟩; simp (maxSteps := 4000000) only [go_sem, g1, hw]))); refine ⟨by kernel_rfl, hK _ ?_⟩; clear hK K) | refine walkL_nil ?_ | refine walkL_ret ?_ | refine walkL_exit ?_ | refine blockA_here ?_ | refine blockA_other rfl ?_ | refine blockA_ret ?_ | refine blockA_normal ?_ | refine thenA_ret ?_ | refine thenA_exit ?_ | refine thenA_normal ?_)
                refine ⟨rfl, i + 1, ?_, hlt, by omega⟩
                refine weak_of [] ?_ ?_ rfl rfl <;> simp [lessT, lessM, lessB, AV.less]
          · have he : i = m.length := by (have : ¬ i < m.length := by simpa using hb); omega
            subst he
            repeat (first | refine walkL_true rfl ?_ | refine walkL_false rfl ?_ | refine walkL_seq ?_ | refine walkL_skip ?_ | refine walkL_block ?_ | (refine walkL_region fun K hK => ?_; simp (maxSteps := 4000000) only [go_sem]; (repeat (first | (refine ⟨_, .lent (hf := h10) (hd := rfl) (hr := rfl), ?_⟩; simp (maxSteps := 4000000) only [go_sem]) | (refine ⟨_, .given (hf := h10) (hd := rfl) (ha := rfl), ?_⟩; simp (maxSteps := 4000000) only [go_sem]))); refine hK _ ?_; clear hK K) | refine walkL_nil ?_ | refine walkL_ret ?_ | refine walkL_exit ?_ | refine blockA_here ?_ | refine blockA_other rfl ?_ | refine blockA_ret ?_ | refine blockA_normal ?_ | refine thenA_ret ?_ | refine thenA_exit ?_ | refine thenA_normal ?_)
            simp (maxSteps := 4000000) only [go_sem]
  · refine fn_walk 98 Tryd.call6 Tryd.func6 rfl (by decide) fun J => ?_
    simp (maxSteps := 4000000) only [go_sem, St.start, Tryd.ntmps6, Tryd.results6]
    repeat (first | refine walkL_true rfl ?_ | refine walkL_false rfl ?_ | refine walkL_seq ?_ | refine walkL_skip ?_ | refine walkL_block ?_ | (refine walkL_region fun K hK => ?_; simp (maxSteps := 4000000) only [go_sem, q1, skyRows_len]; (repeat (first | (refine ⟨_, .lent (hf := h10) (hd := rfl) (hr := rfl), ?_⟩; simp (maxSteps := 4000000) only [go_sem, q1, skyRows_len]) | (refine ⟨_, .given (hf := h10) (hd := rfl) (ha := rfl), ?_⟩; simp (maxSteps := 4000000) only [go_sem, q1, skyRows_len]))); refine hK _ ?_; clear hK K) | refine walkL_nil ?_ | refine walkL_ret ?_ | refine walkL_exit ?_ | refine blockA_here ?_ | refine blockA_other rfl ?_ | refine blockA_ret ?_ | refine blockA_normal ?_ | refine thenA_ret ?_ | refine thenA_exit ?_ | refine thenA_normal ?_)
    simp (maxSteps := 4000000) only [go_sem]
end Go.Ab
namespace Go.Ab
open Go.RowKit Go.Proofs
set_option maxHeartbeats 8000000
set_option maxRecDepth 20000
attribute [local irreducible] WalkL Walk

/-! ### WeatherComes -/

theorem f19 (m : List Sky) (l : Limits) (hm : m.length < 2 ^ 30) : Fn Tryd.prog 19 [.sl (skyRows m), .agg l.row] (.sl (boolRows (keptL m l))) := by
  refine fn_walk 23 Tryd.call19 Tryd.func19 rfl (by decide) fun J => ?_
  simp (maxSteps := 4000000) only [go_sem, St.start, Tryd.ntmps19, Tryd.results19, Limits.row]
  repeat (first | refine walkL_seq ?_ | refine walkL_skip ?_ | refine walkL_block ?_ | (refine walkL_region fun K hK => ?_; simp (maxSteps := 4000000) only [go_sem]; refine hK _ ?_; clear hK K) | refine walkL_nil ?_ | refine walkL_ret ?_ | refine walkL_exit ?_ | refine blockA_here ?_ | refine blockA_other rfl ?_ | refine blockA_ret ?_ | refine blockA_normal ?_ | refine thenA_ret ?_ | refine thenA_exit ?_ | refine thenA_normal ?_)
  refine walkL_loopS (fun (i : Nat) => [(6, .d (.i i)), (5, .own 21)]) (fun i => [(21, some (.arr 4 1 (boolRows (keptL (m.take i) l))))]) (fun i => i ≤ m.length) (fun i => m.length - i) 0 ?_ (Nat.zero_le _) ?_
  · simp (maxSteps := 4000000) only [go_sem]
    refine weak_of [21] ?_ ?_ rfl rfl <;> simp [lessT, lessM, lessB, AV.less]
    all_goals first | done | rfl
  · intro i hi
    simp (maxSteps := 4000000) only [go_sem]
    repeat (first | refine walkL_seq ?_ | refine walkL_skip ?_ | refine walkL_block ?_ | (refine walkL_region fun K hK => ?_; simp (maxSteps := 4000000) only [go_sem, skyRows_len]; refine hK _ ?_; clear hK K) | refine walkL_nil ?_ | refine walkL_ret ?_ | refine walkL_exit ?_ | refine blockA_here ?_ | refine blockA_other rfl ?_ | refine blockA_ret ?_ | refine blockA_normal ?_ | refine thenA_ret ?_ | refine thenA_exit ?_ | refine thenA_normal ?_)
    refine walkL_cond rfl (fun hb => ?_) (fun hb => ?_)
    · have hlt : i < m.length := by simpa using hb
      have hw : IntKind.i64.wrap ((i : Int) + 1) = ((i + 1 : Nat) : Int) := by rw [wr_small (by omega)]; simp
      have g1 := skyRows_at (skyAt_get hlt)
      have h29 := f29 (skyAt m i) l
      have htk : keptL (m.take (i + 1)) l = keptL (m.take i) l ++ [keptB (skyAt m i) l] := by
        unfold keptL
        rw [List.take_add_one, skyAt_get hlt]; simp
      obtain ⟨s, hs⟩ : ∃ s, s = skyAt m i := ⟨_, rfl⟩
      rw [← hs] at g1 h29 htk
      rw [Sky.row] at g1 h29
      rw [Limits.row] at h29
      obtain ⟨A, hA⟩ : ∃ A, A = keptL (m.take i) l := ⟨_, rfl⟩
      have hAl : A.length = i := by rw [hA]; simp [keptL]; omega
      have hn : A.length + 1 ≤ 549755813888 := by omega
      rw [← hA] at htk ⊢
      obtain ⟨k, hk⟩ : ∃ k, k = keptB s l := ⟨_, rfl⟩
      rw [← hk] at h29 htk
      repeat (first | refine walkL_seq ?_ | refine walkL_skip ?_ | refine walkL_block ?_ | (refine walkL_region fun K hK => ?_; simp (maxSteps := 4000000) only [go_sem]; refine hK _ ?_; clear hK K) | refine walkL_nil ?_ | refine walkL_ret ?_ | refine walkL_exit ?_ | refine blockA_here ?_ | refine blockA_other rfl ?_ | refine blockA_ret ?_ | refine blockA_normal ?_ | refine thenA_ret ?_ | refine thenA_exit ?_ | refine thenA_normal ?_)
      refine walkL_drawnA (by kernel_rfl) (by kernel_rfl) fun K hK => ?_
      simp (maxSteps := 4000000) only [go_sem, g1, hn, boolRows_len]
      refine ⟨_, .fn (hf := h29) (hd := rfl) (hr := .inl rfl), ?_⟩
      simp (maxSteps := 4000000) only [go_sem, hn, boolRows_len]
      refine ⟨by kernel_rfl, hK _ ?_⟩
      clear hK K
      repeat (first | refine walkL_seq ?_ | refine walkL_skip ?_ | refine walkL_block ?_ | (refine walkL_region fun K hK => ?_; simp (maxSteps := 4000000) only [go_sem, hw]; refine hK _ ?_; clear hK K) | refine walkL_nil ?_ | refine walkL_ret ?_ | refine walkL_exit ?_ | refine blockA_here ?_ | refine blockA_other rfl ?_ | refine blockA_ret ?_ | refine blockA_normal ?_ | refine thenA_ret ?_ | refine thenA_exit ?_ | refine thenA_normal ?_)
      refine ⟨rfl, i + 1, ?_, hlt, by omega⟩
      rw [htk, boolRows_push]
      refine weak_of [] ?_ ?_ rfl rfl <;> simp [lessT, lessM, lessB, AV.less]
      all_goals first | done | rfl
    · have he : i = m.length := by (have : ¬ i < m.length := by simpa using hb); omega
      subst he
      rw [List.take_length]
      repeat (first | refine walkL_seq ?_ | refine walkL_skip ?_ | refine walkL_block ?_ | (refine walkL_region fun K hK => ?_; simp (maxSteps := 4000000) only [go_sem]; refine hK _ ?_; clear hK K) | refine walkL_nil ?_ | refine walkL_ret ?_ | refine walkL_exit ?_ | refine blockA_here ?_ | refine blockA_other rfl ?_ | refine blockA_ret ?_ | refine blockA_normal ?_ | refine thenA_ret ?_ | refine thenA_exit ?_ | refine thenA_normal ?_)
      simp (maxSteps := 4000000) only [go_sem]

theorem f20 (b : List Bool) (n : Int) (hn : 1 ≤ n ∧ n ≤ 1000) (hl : b.length < 2 ^ 30) : Fn Tryd.prog 20 [.sl (boolRows b), .i n] (.i (beginsF b n)) := by
  obtain ⟨N, hN⟩ : ∃ N : Nat, n = N := ⟨n.toNat, by omega⟩
  subst hN
  have hN1 : 1 ≤ N := by omega
  refine fn_walk 33 Tryd.call20 Tryd.func20 rfl (by decide) fun J => ?_
  simp (maxSteps := 4000000) only [go_sem, St.start, Tryd.ntmps20, Tryd.results20]
  repeat (first | refine walkL_seq ?_ | refine walkL_skip ?_ | refine walkL_block ?_ | (refine walkL_region fun K hK => ?_; simp (maxSteps := 4000000) only [go_sem]; refine hK _ ?_; clear hK K) | refine walkL_nil ?_ | refine walkL_ret ?_ | refine walkL_exit ?_ | refine blockA_here ?_ | refine blockA_other rfl ?_ | refine blockA_ret ?_ | refine blockA_normal ?_ | refine thenA_ret ?_ | refine thenA_exit ?_ | refine thenA_normal ?_)
  refine walkL_loopS (fun (h : Nat) => [(5, .d (.i h)), (6, .undef), (7, .undef)]) (fun _ => []) (fun h => h ≤ b.length ∧ ∀ h' < h, ¬ IsBegin b N h') (fun h => b.length - h) 0 ?_ ⟨Nat.zero_le _, fun _ h => by omega⟩ ?_
  · simp (maxSteps := 4000000) only [go_sem]
    refine weak_of [] ?_ ?_ rfl rfl <;> simp [lessT, lessM, lessB, AV.less]
    all_goals first | done | rfl
  · intro h ⟨hh, hno⟩
    have w1 : IntKind.i64.wrap ((h : Int) + (N : Int)) = ((h + N : Nat) : Int) := by rw [wr_small (by omega)]; simp
    simp (maxSteps := 4000000) only [go_sem]
    repeat (first | refine walkL_seq ?_ | refine walkL_skip ?_ | refine walkL_block ?_ | (refine walkL_region fun K hK => ?_; simp (maxSteps := 4000000) only [go_sem, w1, boolRows_len]; refine hK _ ?_; clear hK K) | refine walkL_nil ?_ | refine walkL_ret ?_ | refine walkL_exit ?_ | refine blockA_here ?_ | refine blockA_other rfl ?_ | refine blockA_ret ?_ | refine blockA_normal ?_ | refine thenA_ret ?_ | refine thenA_exit ?_ | refine thenA_normal ?_)
    refine walkL_cond rfl (fun hb => ?_) (fun hb => ?_)
    · have hle : h + N ≤ b.length := by have := of_decide_eq_true hb; omega
      have hw : IntKind.i64.wrap ((h : Int) + 1) = ((h + 1 : Nat) : Int) := by rw [wr_small (by omega)]; simp
      repeat (first | refine walkL_seq ?_ | refine walkL_skip ?_ | refine walkL_block ?_ | (refine walkL_region fun K hK => ?_; simp (maxSteps := 4000000) only [go_sem]; refine hK _ ?_; clear hK K) | refine walkL_nil ?_ | refine walkL_ret ?_ | refine walkL_exit ?_ | refine blockA_here ?_ | refine blockA_other rfl ?_ | refine blockA_ret ?_ | refine blockA_normal ?_ | refine thenA_ret ?_ | refine thenA_exit ?_ | refine thenA_normal ?_)
      refine walkL_loopS (fun (j : Nat) => [(7, .d (.i ((h + j : Nat) : Int))), (6, .d (.bool (allTo b h j)))]) (fun _ => []) (fun j => j ≤ N) (fun j => N - j) 0 ?_ (Nat.zero_le _) ?_
      · simp (maxSteps := 4000000) only [go_sem]
        refine weak_of [] ?_ ?_ rfl rfl <;> simp [lessT, lessM, lessB, AV.less]
        all_goals first | done | rfl
      · intro j hj
        simp (maxSteps := 4000000) only [go_sem]
        repeat (first | refine walkL_seq ?_ | refine walkL_skip ?_ | refine walkL_block ?_ | (refine walkL_region fun K hK => ?_; simp (maxSteps := 4000000) only [go_sem, w1]; refine hK _ ?_; clear hK K) | refine walkL_nil ?_ | refine walkL_ret ?_ | refine walkL_exit ?_ | refine blockA_here ?_ | refine blockA_other rfl ?_ | refine blockA_ret ?_ | refine blockA_normal ?_ | refine thenA_ret ?_ | refine thenA_exit ?_ | refine thenA_normal ?_)
        refine walkL_cond rfl (fun hb => ?_) (fun hb => ?_)
        · have hlt : j < N := by have := of_decide_eq_true hb; omega
          have hwj : IntKind.i64.wrap (((h + j : Nat) : Int) + 1) = ((h + (j + 1) : Nat) : Int) := by rw [wr_small (by omega)]; omega
          obtain ⟨x, hx⟩ : ∃ x, b[h + j]? = some x := ⟨_, List.getElem?_eq_getElem (by omega)⟩
          have g1 := boolRows_at hx
          have hnx := allTo_succ hx
          cases q : allTo b h j
          · rw [q, Bool.false_and] at hnx
            repeat (first | refine walkL_true rfl ?_ | refine walkL_false rfl ?_ | refine walkL_seq ?_ | refine walkL_skip ?_ | refine walkL_block ?_ | (refine walkL_region fun K hK => ?_; simp (maxSteps := 4000000) only [go_sem, hwj]; refine hK _ ?_; clear hK K) | refine walkL_nil ?_ | refine walkL_ret ?_ | refine walkL_exit ?_ | refine blockA_here ?_ | refine blockA_other rfl ?_ | refine blockA_ret ?_ | refine blockA_normal ?_ | refine thenA_ret ?_ | refine thenA_exit ?_ | refine thenA_normal ?_)
            refine ⟨rfl, j + 1, ?_, hlt, by omega⟩
            rw [hnx]
            refine weak_of [] ?_ ?_ rfl rfl <;> simp [lessT, lessM, lessB, AV.less]
          · rw [q, Bool.true_and] at hnx
            repeat (first | refine walkL_true rfl ?_ | refine walkL_false rfl ?_ | refine walkL_seq ?_ | refine walkL_skip ?_ | refine walkL_block ?_ | (refine walkL_region fun K hK => ?_; simp (maxSteps := 4000000) only [go_sem, g1, hwj]; refine hK _ ?_; clear hK K) | refine walkL_nil ?_ | refine walkL_ret ?_ | refine walkL_exit ?_ | refine blockA_here ?_ | refine blockA_other rfl ?_ | refine blockA_ret ?_ | refine blockA_normal ?_ | refine thenA_ret ?_ | refine thenA_exit ?_ | refine thenA_normal ?_)
            refine ⟨rfl, j + 1, ?_, hlt, by omega⟩
            rw [hnx]
            refine weak_of [] ?_ ?_ rfl rfl <;> simp [lessT, lessM, lessB, AV.less]
        · have he : j = N := by (have : ¬ (((h + j : Nat) : Int) < ((h + N : Nat) : Int)) := by simpa using hb); omega
          subst he
          cases q : allTo b h j
          · have hnb : ¬ IsBegin b j h := fun hc => by rw [(allTo_iff hle).2 hc] at q; cases q
            repeat (first | refine walkL_true rfl ?_ | refine walkL_false rfl ?_ | refine walkL_seq ?_ | refine walkL_skip ?_ | refine walkL_block ?_ | (refine walkL_region fun K hK => ?_; simp (maxSteps := 4000000) only [go_sem, hw]; refine hK _ ?_; clear hK K) | refine walkL_nil ?_ | refine walkL_ret ?_ | refine walkL_exit ?_ | refine blockA_here ?_ | refine blockA_other rfl ?_ | refine blockA_ret ?_ | refine blockA_normal ?_ | refine thenA_ret ?_ | refine thenA_exit ?_ | refine thenA_normal ?_)
            refine ⟨rfl, h + 1, ?_, ⟨by omega, fun h' hlt' => by
              by_cases he : h' = h
              · subst he; exact hnb
              · exact hno h' (by omega)⟩, by omega⟩
            refine weak_of [] ?_ ?_ rfl rfl <;> simp [lessT, lessM, lessB, AV.less]
          · have e := begins_eq hN1 ((allTo_iff hle).1 q) hno
            rw [e]
            repeat (first | refine walkL_true rfl ?_ | refine walkL_false rfl ?_ | refine walkL_seq ?_ | refine walkL_skip ?_ | refine walkL_block ?_ | (refine walkL_region fun K hK => ?_; simp (maxSteps := 4000000) only [go_sem]; refine hK _ ?_; clear hK K) | refine walkL_nil ?_ | refine walkL_ret ?_ | refine walkL_exit ?_ | refine blockA_here ?_ | refine blockA_other rfl ?_ | refine blockA_ret ?_ | refine blockA_normal ?_ | refine thenA_ret ?_ | refine thenA_exit ?_ | refine thenA_normal ?_)
            simp (maxSteps := 4000000) only [go_sem]
    · have hgt : b.length < h + N := by (have : ¬ (((h + N : Nat) : Int) ≤ (b.length : Int)) := by simpa using hb); omega
      have e := begins_no hN1 (l := b) fun h' hc => by
        by_cases hlt : h' < h
        · exact hno h' hlt hc
        · have := (List.getElem?_eq_some_iff.1 (hc (h' + N - 1) (by omega) (by omega))).1
          omega
      rw [e]
      repeat (first | refine walkL_seq ?_ | refine walkL_skip ?_ | refine walkL_block ?_ | (refine walkL_region fun K hK => ?_; simp (maxSteps := 4000000) only [go_sem]; refine hK _ ?_; clear hK K) | refine walkL_nil ?_ | refine walkL_ret ?_ | refine walkL_exit ?_ | refine blockA_here ?_ | refine blockA_other rfl ?_ | refine blockA_ret ?_ | refine blockA_normal ?_ | refine thenA_ret ?_ | refine thenA_exit ?_ | refine thenA_normal ?_)
      simp (maxSteps := 4000000) only [go_sem]
end Go.Ab
namespace Go.Ab
open Go.RowKit Go.Proofs
set_option maxHeartbeats 8000000
set_option maxRecDepth 20000
attribute [local irreducible] WalkL Walk

theorem gapTo_nonneg {b : List Bool} {n : Int} : ∀ (k : Nat) (g : Int), 0 ≤ g → 0 ≤ gapTo b n k g
  | 0, g, h => h
  | k + 1, g, h => by
    have := gapTo_nonneg (b := b) (n := n) k g h
    rw [gapTo]
    omega

theorem f21 (b : List Bool) (n : Int) (hn : 1 ≤ n ∧ n ≤ 1000) (hl : b.length < 2 ^ 30) : Fn Tryd.prog 21 [.sl (boolRows b), .i n] (.i (gapTo b n b.length 0)) := by
  obtain ⟨N, hN⟩ : ∃ N : Nat, n = N := ⟨n.toNat, by omega⟩
  subst hN
  have hN1 : 1 ≤ N := by omega
  refine fn_walk 36 Tryd.call21 Tryd.func21 rfl (by decide) fun J => ?_
  simp (maxSteps := 4000000) only [go_sem, St.start, Tryd.ntmps21, Tryd.results21]
  repeat (first | refine walkL_seq ?_ | refine walkL_skip ?_ | refine walkL_block ?_ | (refine walkL_region fun K hK => ?_; simp (maxSteps := 4000000) only [go_sem]; refine hK _ ?_; clear hK K) | refine walkL_nil ?_ | refine walkL_ret ?_ | refine walkL_exit ?_ | refine blockA_here ?_ | refine blockA_other rfl ?_ | refine blockA_ret ?_ | refine blockA_normal ?_ | refine thenA_ret ?_ | refine thenA_exit ?_ | refine thenA_normal ?_)
  refine walkL_loopS (fun (a : Nat) => [(6, .d (.i a)), (5, .d (.i (gapTo b N a 0))), (7, .undef)]) (fun _ => []) (fun a => a ≤ b.length) (fun a => b.length - a) 0 ?_ (Nat.zero_le _) ?_
  · simp (maxSteps := 4000000) only [go_sem]
    refine weak_of [] ?_ ?_ rfl rfl <;> simp [lessT, lessM, lessB, AV.less]
    all_goals first | done | rfl
  · intro a ha
    have g0 := gapTo_nonneg (b := b) (n := (N : Int)) a 0 (Int.le_refl _)
    have e1 : gapTo b N (a + 1) 0 = max (gapTo b N a 0) (gapAt b N a) := rfl
    obtain ⟨x, hx0⟩ : ∃ x, x = gapTo b (N : Int) a 0 := ⟨_, rfl⟩
    rw [← hx0] at e1 g0 ⊢
    simp (maxSteps := 4000000) only [go_sem]
    repeat (first | refine walkL_seq ?_ | refine walkL_skip ?_ | refine walkL_block ?_ | (refine walkL_region fun K hK => ?_; simp (maxSteps := 4000000) only [go_sem, boolRows_len]; refine hK _ ?_; clear hK K) | refine walkL_nil ?_ | refine walkL_ret ?_ | refine walkL_exit ?_ | refine blockA_here ?_ | refine blockA_other rfl ?_ | refine blockA_ret ?_ | refine blockA_normal ?_ | refine thenA_ret ?_ | refine thenA_exit ?_ | refine thenA_normal ?_)
    refine walkL_cond rfl (fun hb => ?_) (fun hb => ?_)
    · have hlt : a < b.length := by simpa using hb
      have hw : IntKind.i64.wrap ((a : Int) + 1) = ((a + 1 : Nat) : Int) := by rw [wr_small (by omega)]; simp
      have hga := gapAt_range hN1 (b := b) (a := a) ha
      repeat (first | refine walkL_seq ?_ | refine walkL_skip ?_ | refine walkL_block ?_ | (refine walkL_region fun K hK => ?_; simp (maxSteps := 4000000) only [go_sem]; refine hK _ ?_; clear hK K) | refine walkL_nil ?_ | refine walkL_ret ?_ | refine walkL_exit ?_ | refine blockA_here ?_ | refine blockA_other rfl ?_ | refine blockA_ret ?_ | refine blockA_normal ?_ | refine thenA_ret ?_ | refine thenA_exit ?_ | refine thenA_normal ?_)
      refine walkL_loopS (fun (j : Nat) => [(7, .d (.i ((a + j : Nat) : Int))), (5, .d (.i (max x (min (j : Int) (gapAt b N a)))))]) (fun _ => []) (fun j => a + j ≤ b.length) (fun j => b.length - a - j) 0 ?_ ha ?_
      · simp (maxSteps := 4000000) only [go_sem]
        have e0 : max x (min (0 : Int) (gapAt b N a)) = x := by omega
        rw [e0]
        refine weak_of [] ?_ ?_ rfl rfl <;> simp [lessT, lessM, lessB, AV.less]
        all_goals first | done | rfl
      · intro j hj
        simp (maxSteps := 4000000) only [go_sem]
        repeat (first | refine walkL_seq ?_ | refine walkL_skip ?_ | refine walkL_block ?_ | (refine walkL_region fun K hK => ?_; simp (maxSteps := 4000000) only [go_sem, boolRows_len]; refine hK _ ?_; clear hK K) | refine walkL_nil ?_ | refine walkL_ret ?_ | refine walkL_exit ?_ | refine blockA_here ?_ | refine blockA_other rfl ?_ | refine blockA_ret ?_ | refine blockA_normal ?_ | refine thenA_ret ?_ | refine thenA_exit ?_ | refine thenA_normal ?_)
        refine walkL_cond rfl (fun hb => ?_) (fun hb => ?_)
        · have hlt : a + j < b.length := by have := of_decide_eq_true hb; omega
          have hwj : IntKind.i64.wrap (((a + j : Nat) : Int) + 1) = ((a + (j + 1) : Nat) : Int) := by rw [wr_small (by omega)]; omega
          have hwd : IntKind.i64.wrap (((a + (j + 1) : Nat) : Int) - (a : Int)) = ((j + 1 : Nat) : Int) := by rw [wr_small (by omega)]; omega
          have c2 := f20 ((b.drop a).take (j + 1)) N hn (by simp; omega)
          have hlk := lack_iff hN1 (b := b) (a := a) (j := j + 1) (by omega)
          have e2 : List.take (a + (j + 1) - a) (List.drop a (boolRows b)) = boolRows ((b.drop a).take (j + 1)) := by
            unfold boolRows
            rw [← List.map_drop, ← List.map_take, show a + (j + 1) - a = j + 1 by omega]
          obtain ⟨y, hy⟩ : ∃ y, y = beginsF ((b.drop a).take (j + 1)) N := ⟨_, rfl⟩
          rw [← hy] at c2 hlk
          obtain ⟨g, hg⟩ : ∃ g, g = gapAt b N a := ⟨_, rfl⟩
          rw [← hg] at hlk hga e1 ⊢
          have k1 : ((a : Int) ≤ ((a + (j + 1) : Nat) : Int)) := by omega
          have k2 : ((a + (j + 1) : Nat) : Int) ≤ (b.length : Int) := by omega
          have k3 : (0 : Int) ≤ (a : Int) := by omega
          have k4 : a ≤ a + (j + 1) := by omega
          have k5 : a + (j + 1) ≤ b.length := by omega
          have k6 : (0 : Int) ≤ (a : Int) ∧ (a : Int) ≤ ((a + (j + 1) : Nat) : Int) := ⟨k3, k1⟩
          cases qy : decide (y < 0)
          · have hy0 : ¬ y < 0 := of_decide_eq_false qy
            have hm : max x (min ((j + 1 : Nat) : Int) g) = max x (min (j : Int) g) := by omega
            repeat (first | refine walkL_true rfl ?_ | refine walkL_false rfl ?_ | refine walkL_seq ?_ | refine walkL_skip ?_ | refine walkL_block ?_ | (refine walkL_region fun K hK => ?_; simp (maxSteps := 4000000) only [go_sem, hwj, hwd, k1, k2, k3, k4, k5, k6, e2, qy, boolRows_len]; (repeat (first | (refine ⟨_, .lent (hf := c2) (hd := rfl) (hr := rfl), ?_⟩; simp (maxSteps := 4000000) only [go_sem, hwj, hwd, k1, k2, k3, k4, k5, k6, e2, qy, boolRows_len]) | (refine ⟨_, .given (hf := c2) (hd := rfl) (ha := rfl), ?_⟩; simp (maxSteps := 4000000) only [go_sem, hwj, hwd, k1, k2, k3, k4, k5, k6, e2, qy, boolRows_len]))); refine hK _ ?_; clear hK K) | refine walkL_nil ?_ | refine walkL_ret ?_ | refine walkL_exit ?_ | refine blockA_here ?_ | refine blockA_other rfl ?_ | refine blockA_ret ?_ | refine blockA_normal ?_ | refine thenA_ret ?_ | refine thenA_exit ?_ | refine thenA_normal ?_)
            refine ⟨rfl, j + 1, ?_, by omega, by omega⟩
            rw [hm]
            refine weak_of [] ?_ ?_ rfl rfl <;> simp [lessT, lessM, lessB, AV.less]
            all_goals first | done | rfl
          · have hy0 : y < 0 := of_decide_eq_true qy
            have hm : max x (min ((j + 1 : Nat) : Int) g) = max (max x (min (j : Int) g)) ((j + 1 : Nat) : Int) := by omega
            repeat (first | refine walkL_true rfl ?_ | refine walkL_false rfl ?_ | refine walkL_seq ?_ | refine walkL_skip ?_ | refine walkL_block ?_ | (refine walkL_region fun K hK => ?_; simp (maxSteps := 4000000) only [go_sem, hwj, hwd, k1, k2, k3, k4, k5, k6, e2, qy, boolRows_len]; (repeat (first | (refine ⟨_, .lent (hf := c2) (hd := rfl) (hr := rfl), ?_⟩; simp (maxSteps := 4000000) only [go_sem, hwj, hwd, k1, k2, k3, k4, k5, k6, e2, qy, boolRows_len]) | (refine ⟨_, .given (hf := c2) (hd := rfl) (ha := rfl), ?_⟩; simp (maxSteps := 4000000) only [go_sem, hwj, hwd, k1, k2, k3, k4, k5, k6, e2, qy, boolRows_len]))); refine hK _ ?_; clear hK K) | refine walkL_nil ?_ | refine walkL_ret ?_ | refine walkL_exit ?_ | refine blockA_here ?_ | refine blockA_other rfl ?_ | refine blockA_ret ?_ | refine blockA_normal ?_ | refine thenA_ret ?_ | refine thenA_exit ?_ | refine thenA_normal ?_)
            refine ⟨rfl, j + 1, ?_, by omega, by omega⟩
            rw [hm]
            refine weak_of [] ?_ ?_ rfl rfl <;> simp [lessT, lessM, lessB, AV.less]
            all_goals first | done | rfl
        · have he : a + j = b.length := by (have : ¬ (((a + j : Nat) : Int) < (b.length : Int)) := by simpa using hb); omega
          have hm : max x (min (j : Int) (gapAt b N a)) = gapTo b N (a + 1) 0 := by rw [e1]; omega
          rw [hm]
          repeat (first | refine walkL_seq ?_ | refine walkL_skip ?_ | refine walkL_block ?_ | (refine walkL_region fun K hK => ?_; simp (maxSteps := 4000000) only [go_sem, hw]; refine hK _ ?_; clear hK K) | refine walkL_nil ?_ | refine walkL_ret ?_ | refine walkL_exit ?_ | refine blockA_here ?_ | refine blockA_other rfl ?_ | refine blockA_ret ?_ | refine blockA_normal ?_ | refine thenA_ret ?_ | refine thenA_exit ?_ | refine thenA_normal ?_)
          refine ⟨rfl, a + 1, ?_, by omega, by omega⟩
          refine weak_of [] ?_ ?_ rfl rfl <;> simp [lessT, lessM, lessB, AV.less]
          all_goals first | done | rfl
    · have he : a = b.length := by (have : ¬ a < b.length := by simpa using hb); omega
      subst he
      rw [hx0]
      repeat (first | refine walkL_seq ?_ | refine walkL_skip ?_ | refine walkL_block ?_ | (refine walkL_region fun K hK => ?_; simp (maxSteps := 4000000) only [go_sem]; refine hK _ ?_; clear hK K) | refine walkL_nil ?_ | refine walkL_ret ?_ | refine walkL_exit ?_ | refine blockA_here ?_ | refine blockA_other rfl ?_ | refine blockA_ret ?_ | refine blockA_normal ?_ | refine thenA_ret ?_ | refine thenA_exit ?_ | refine thenA_normal ?_)
      simp (maxSteps := 4000000) only [go_sem]
end Go.Ab
namespace Go.Ab
open Go.RowKit Go.Proofs
set_option maxHeartbeats 8000000
set_option maxRecDepth 20000
attribute [local irreducible] WalkL Walk

theorem looks_ok {F : List (List Hour)} {seen : List Sight} {l : Limits} {n : Int} (h : lookF F seen 0 true = 0) (hl : limB l = true) (hn : 1 ≤ n ∧ n ≤ 48) : lookF F seen (limE l) (withinB n 1 48) = 0 := by
  have hw : withinB n 1 48 = true := within_iff.2 hn
  unfold limE
  rw [if_pos hl, hw]
  exact h
theorem gapF_ok {F : List (List Hour)} {seen : List Sight} {l : Limits} {n : Int} (h : lookF F seen 0 true = 0) (hl : limB l = true) (hn : 1 ≤ n ∧ n ≤ 48) : gapF F seen l n = (gapS l n (scensOf (possL F seen)), 0) := by
  unfold gapF
  rw [if_pos (looks_ok h hl hn)]

/-- What Window and Gap say of a weather. -/
theorem comes_all {F : List (List Hour)} {seen : List Sight} (hg : ForeGood F) (hsi : sightsB (hd0 F).length seen = true) {m : List Sky} (hwe : weB F seen m = true) {l : Limits} (hl : limB l = true) {n : Int} (hn : 1 ≤ n ∧ n ≤ 48) :
    ∃ fi la ga bg : Int, windowF F seen l n = (fi, la, 0) ∧ gapF F seen l n = (ga, 0) ∧ beginsF (keptL m l) n = bg ∧ (fi < 0 → bg < 0) ∧ (0 ≤ fi → 0 ≤ bg → fi ≤ bg) ∧ (0 ≤ la → 0 ≤ bg ∧ bg ≤ la ∧ fi ≤ la) ∧ gapTo (keptL m l) n (keptL m l).length 0 ≤ ga := by
  obtain ⟨N, rfl⟩ : ∃ N : Nat, n = N := ⟨n.toNat, by omega⟩
  have hN : 1 ≤ N := by omega
  have hlk := look_mk hg hsi (we_poss hg hsi hwe)
  obtain ⟨hH, s, hs, hsl, hin⟩ := we_in hg hsi hwe
  obtain ⟨h1, h2, h3⟩ := comes (l := l) hN hs hsl hin
  rw [hH] at h1 h2
  refine ⟨_, _, _, _, by unfold windowF; rw [if_pos (looks_ok hlk hl hn)], gapF_ok hlk hl hn, rfl, ?_, ?_, ?_, ?_⟩
  · intro hf
    by_cases hb : 0 ≤ beginsF (keptL m l) N
    · have := h1 hb
      rw [if_neg (by omega)] at hf
      omega
    · omega
  · intro hf hb
    have := h1 hb
    rw [if_neg (by omega)] at hf ⊢
    omega
  · intro hla
    cases hnv : winNever l (N : Int) (scensOf (possL F seen))
    · rw [hnv] at hla
      simp only [Bool.false_eq_true, if_false] at hla ⊢
      have k2 := h2 hnv
      have k1 := h1 k2.1
      rw [if_neg (by omega)]
      omega
    · rw [hnv] at hla
      simp at hla
  · have hk : (keptL m l).length = m.length := by simp [keptL]
    rw [hk, gapTo_le]
    exact ⟨(gapS_le.1 (Int.le_refl _)).1, h3⟩

theorem f4 (F : List (List Hour)) (x : RealX) (hs : ForeSmall F) (hsl : x.seen.length < 2 ^ 30) (hkl : x.skies.length < 2 ^ 30) : Fn Tryd.prog 4 [.agg [.sl (scenRows F)], .agg x.cells] (.bool true) := by
  obtain ⟨seen, m, l, n⟩ := x
  dsimp only at hsl hkl
  unfold RealX.cells
  dsimp only
  have h10 := f10
  have h17 := f17 F seen m hs hsl
  have h9 := f9 l
  rw [Limits.row] at h9
  cases q1 : decide ((m.length : Int) > 60)
  · cases q2 : weathersB F seen m
    · rw [q2] at h17
      refine fn_walk 132 Tryd.call4 Tryd.func4 rfl (by decide) fun J => ?_
      simp (maxSteps := 4000000) only [go_sem, St.start, Tryd.ntmps4, Tryd.results4]
      repeat (first | refine walkL_true rfl ?_ | refine walkL_false rfl ?_ | refine walkL_seq ?_ | refine walkL_skip ?_ | refine walkL_block ?_ | (refine walkL_region fun K hK => ?_; simp (maxSteps := 4000000) only [go_sem, q1, skyRows_len]; (repeat (first | (refine ⟨_, .lent (hf := h10) (hd := rfl) (hr := rfl), ?_⟩; simp (maxSteps := 4000000) only [go_sem, q1, skyRows_len]) | (refine ⟨_, .lent (hf := h17) (hd := rfl) (hr := rfl), ?_⟩; simp (maxSteps := 4000000) only [go_sem, q1, skyRows_len]) | (refine ⟨_, .given (hf := h10) (hd := rfl) (ha := rfl), ?_⟩; simp (maxSteps := 4000000) only [go_sem, q1, skyRows_len]) | (refine ⟨_, .given (hf := h17) (hd := rfl) (ha := rfl), ?_⟩; simp (maxSteps := 4000000) only [go_sem, q1, skyRows_len]))); refine hK _ ?_; clear hK K) | refine walkL_nil ?_ | refine walkL_ret ?_ | refine walkL_exit ?_ | refine blockA_here ?_ | refine blockA_other rfl ?_ | refine blockA_ret ?_ | refine blockA_normal ?_ | refine thenA_ret ?_ | refine thenA_exit ?_ | refine thenA_normal ?_)
      simp (maxSteps := 4000000) only [go_sem]
    · rw [q2] at h17
      cases q3 : limB l
      · rw [q3] at h9
        refine fn_walk 132 Tryd.call4 Tryd.func4 rfl (by decide) fun J => ?_
        simp (maxSteps := 4000000) only [go_sem, St.start, Tryd.ntmps4, Tryd.results4]
        repeat (first | refine walkL_true rfl ?_ | refine walkL_false rfl ?_ | refine walkL_seq ?_ | refine walkL_skip ?_ | refine walkL_block ?_ | (refine walkL_region fun K hK => ?_; simp (maxSteps := 4000000) only [go_sem, q1, skyRows_len]; (repeat (first | (refine ⟨_, .lent (hf := h10) (hd := rfl) (hr := rfl), ?_⟩; simp (maxSteps := 4000000) only [go_sem, q1, skyRows_len]) | (refine ⟨_, .lent (hf := h17) (hd := rfl) (hr := rfl), ?_⟩; simp (maxSteps := 4000000) only [go_sem, q1, skyRows_len]) | (refine ⟨_, .lent (hf := h9) (hd := rfl) (hr := rfl), ?_⟩; simp (maxSteps := 4000000) only [go_sem, q1, skyRows_len]) | (refine ⟨_, .given (hf := h10) (hd := rfl) (ha := rfl), ?_⟩; simp (maxSteps := 4000000) only [go_sem, q1, skyRows_len]) | (refine ⟨_, .given (hf := h17) (hd := rfl) (ha := rfl), ?_⟩; simp (maxSteps := 4000000) only [go_sem, q1, skyRows_len]) | (refine ⟨_, .given (hf := h9) (hd := rfl) (ha := rfl), ?_⟩; simp (maxSteps := 4000000) only [go_sem, q1, skyRows_len]))); refine hK _ ?_; clear hK K) | refine walkL_nil ?_ | refine walkL_ret ?_ | refine walkL_exit ?_ | refine blockA_here ?_ | refine blockA_other rfl ?_ | refine blockA_ret ?_ | refine blockA_normal ?_ | refine thenA_ret ?_ | refine thenA_exit ?_ | refine thenA_normal ?_)
        simp (maxSteps := 4000000) only [go_sem]
      · rw [q3] at h9
        cases q4 : decide (n < 1)
        · cases q5 : decide (n > 48)
          · have q4' : ¬ n < 1 := of_decide_eq_false q4
            have q5' : ¬ n > 48 := of_decide_eq_false q5
            have hn : 1 ≤ n ∧ n ≤ 48 := by omega
            obtain ⟨hf, hg, hsi, hwe⟩ := weathers_iff q2
            obtain ⟨fi, la, ga, bg, e1, e2, e3, p1, p2, p3, p4⟩ := comes_all hg hsi hwe q3 hn
            have h18 := f18 F seen l n hs hsl
            have h14 := f14 F seen l n hs hsl
            have h19 := f19 m l hkl
            have hk : (keptL m l).length = m.length := by simp [keptL]
            have h20 := f20 (keptL m l) n (by omega) (by omega)
            have h21 := f21 (keptL m l) n (by omega) (by omega)
            rw [e1] at h18
            rw [e2] at h14
            rw [e3] at h20
            dsimp only at h18 h14
            obtain ⟨t, ht⟩ : ∃ t, t = gapTo (keptL m l) n (keptL m l).length 0 := ⟨_, rfl⟩
            rw [← ht] at h21 p4
            rw [Limits.row] at h18 h14 h19
            obtain ⟨L, hL⟩ : ∃ L, L = keptL m l := ⟨_, rfl⟩
            rw [← hL] at h19 h20 h21
            have dt : decide (t ≤ ga) = true := decide_eq_true p4
            clear e1 e2 e3 hL ht hwe q2
            rcases Int.lt_or_le fi 0 with k1 | k1 <;> rcases Int.lt_or_le bg 0 with k2 | k2 <;> rcases Int.lt_or_le la 0 with k3 | k3
            all_goals try (exfalso; have := p3 k3; omega)
            all_goals try (exfalso; have := p1 k1; omega)
            all_goals
              have p2' := p2
              first | have d1 : decide (fi < 0) = true := decide_eq_true (by omega) | have d1 : decide (fi < 0) = false := decide_eq_false (by omega)
              first | have d2 : decide (fi ≥ 0) = true := decide_eq_true (by omega) | have d2 : decide (fi ≥ 0) = false := decide_eq_false (by omega)
              first | have d3 : decide (bg < 0) = true := decide_eq_true (by omega) | have d3 : decide (bg < 0) = false := decide_eq_false (by omega)
              first | have d4 : decide (bg ≥ 0) = true := decide_eq_true (by omega) | have d4 : decide (bg ≥ 0) = false := decide_eq_false (by omega)
              first | have d5 : decide (la ≥ 0) = true := decide_eq_true (by omega) | have d5 : decide (la ≥ 0) = false := decide_eq_false (by omega)
              first | have d6 : decide (bg < fi) = false := decide_eq_false (by have := p2 k1 k2; omega) | have d6 : True := trivial
              first | have d7 : decide (bg > la) = false := decide_eq_false (by have := p3 k3; omega) | have d7 : True := trivial
              first | have d8 : decide (fi > la) = false := decide_eq_false (by have := p3 k3; omega) | have d8 : True := trivial
              cases d9 : decide (fi > la)
              all_goals
                refine fn_walk 132 Tryd.call4 Tryd.func4 rfl (by decide) fun J => ?_
                simp (maxSteps := 4000000) only [go_sem, St.start, Tryd.ntmps4, Tryd.results4]
                repeat (first | refine walkL_true rfl ?_ | refine walkL_false rfl ?_ | refine walkL_seq ?_ | refine walkL_skip ?_ | refine walkL_block ?_ | (refine walkL_region fun K hK => ?_; simp (maxSteps := 4000000) only [go_sem, q1, q4, q5, d1, d2, d3, d4, d5, d6, d7, d8, d9, dt, skyRows_len]; (repeat (first | (refine ⟨_, .lent (hf := h10) (hd := rfl) (hr := rfl), ?_⟩; simp (maxSteps := 4000000) only [go_sem, q1, q4, q5, d1, d2, d3, d4, d5, d6, d7, d8, d9, dt, skyRows_len]) | (refine ⟨_, .lent (hf := h17) (hd := rfl) (hr := rfl), ?_⟩; simp (maxSteps := 4000000) only [go_sem, q1, q4, q5, d1, d2, d3, d4, d5, d6, d7, d8, d9, dt, skyRows_len]) | (refine ⟨_, .lent (hf := h9) (hd := rfl) (hr := rfl), ?_⟩; simp (maxSteps := 4000000) only [go_sem, q1, q4, q5, d1, d2, d3, d4, d5, d6, d7, d8, d9, dt, skyRows_len]) | (refine ⟨_, .lent (hf := h18) (hd := rfl) (hr := rfl), ?_⟩; simp (maxSteps := 4000000) only [go_sem, q1, q4, q5, d1, d2, d3, d4, d5, d6, d7, d8, d9, dt, skyRows_len]) | (refine ⟨_, .lent (hf := h14) (hd := rfl) (hr := rfl), ?_⟩; simp (maxSteps := 4000000) only [go_sem, q1, q4, q5, d1, d2, d3, d4, d5, d6, d7, d8, d9, dt, skyRows_len]) | (refine ⟨_, .lent (hf := h19) (hd := rfl) (hr := rfl), ?_⟩; simp (maxSteps := 4000000) only [go_sem, q1, q4, q5, d1, d2, d3, d4, d5, d6, d7, d8, d9, dt, skyRows_len]) | (refine ⟨_, .lent (hf := h20) (hd := rfl) (hr := rfl), ?_⟩; simp (maxSteps := 4000000) only [go_sem, q1, q4, q5, d1, d2, d3, d4, d5, d6, d7, d8, d9, dt, skyRows_len]) | (refine ⟨_, .lent (hf := h21) (hd := rfl) (hr := rfl), ?_⟩; simp (maxSteps := 4000000) only [go_sem, q1, q4, q5, d1, d2, d3, d4, d5, d6, d7, d8, d9, dt, skyRows_len]) | (refine ⟨_, .given (hf := h10) (hd := rfl) (ha := rfl), ?_⟩; simp (maxSteps := 4000000) only [go_sem, q1, q4, q5, d1, d2, d3, d4, d5, d6, d7, d8, d9, dt, skyRows_len]) | (refine ⟨_, .given (hf := h17) (hd := rfl) (ha := rfl), ?_⟩; simp (maxSteps := 4000000) only [go_sem, q1, q4, q5, d1, d2, d3, d4, d5, d6, d7, d8, d9, dt, skyRows_len]) | (refine ⟨_, .given (hf := h9) (hd := rfl) (ha := rfl), ?_⟩; simp (maxSteps := 4000000) only [go_sem, q1, q4, q5, d1, d2, d3, d4, d5, d6, d7, d8, d9, dt, skyRows_len]) | (refine ⟨_, .given (hf := h18) (hd := rfl) (ha := rfl), ?_⟩; simp (maxSteps := 4000000) only [go_sem, q1, q4, q5, d1, d2, d3, d4, d5, d6, d7, d8, d9, dt, skyRows_len]) | (refine ⟨_, .given (hf := h14) (hd := rfl) (ha := rfl), ?_⟩; simp (maxSteps := 4000000) only [go_sem, q1, q4, q5, d1, d2, d3, d4, d5, d6, d7, d8, d9, dt, skyRows_len]) | (refine ⟨_, .given (hf := h19) (hd := rfl) (ha := rfl), ?_⟩; simp (maxSteps := 4000000) only [go_sem, q1, q4, q5, d1, d2, d3, d4, d5, d6, d7, d8, d9, dt, skyRows_len]) | (refine ⟨_, .given (hf := h20) (hd := rfl) (ha := rfl), ?_⟩; simp (maxSteps := 4000000) only [go_sem, q1, q4, q5, d1, d2, d3, d4, d5, d6, d7, d8, d9, dt, skyRows_len]) | (refine ⟨_, .given (hf := h21) (hd := rfl) (ha := rfl), ?_⟩; simp (maxSteps := 4000000) only [go_sem, q1, q4, q5, d1, d2, d3, d4, d5, d6, d7, d8, d9, dt, skyRows_len]))); refine hK _ ?_; clear hK K) | refine walkL_nil ?_ | refine walkL_ret ?_ | refine walkL_exit ?_ | refine blockA_here ?_ | refine blockA_other rfl ?_ | refine blockA_ret ?_ | refine blockA_normal ?_ | refine thenA_ret ?_ | refine thenA_exit ?_ | refine thenA_normal ?_)
                simp (maxSteps := 4000000) only [go_sem]
          · refine fn_walk 132 Tryd.call4 Tryd.func4 rfl (by decide) fun J => ?_
            simp (maxSteps := 4000000) only [go_sem, St.start, Tryd.ntmps4, Tryd.results4]
            repeat (first | refine walkL_true rfl ?_ | refine walkL_false rfl ?_ | refine walkL_seq ?_ | refine walkL_skip ?_ | refine walkL_block ?_ | (refine walkL_region fun K hK => ?_; simp (maxSteps := 4000000) only [go_sem, q1, q4, q5, skyRows_len]; (repeat (first | (refine ⟨_, .lent (hf := h10) (hd := rfl) (hr := rfl), ?_⟩; simp (maxSteps := 4000000) only [go_sem, q1, q4, q5, skyRows_len]) | (refine ⟨_, .lent (hf := h17) (hd := rfl) (hr := rfl), ?_⟩; simp (maxSteps := 4000000) only [go_sem, q1, q4, q5, skyRows_len]) | (refine ⟨_, .lent (hf := h9) (hd := rfl) (hr := rfl), ?_⟩; simp (maxSteps := 4000000) only [go_sem, q1, q4, q5, skyRows_len]) | (refine ⟨_, .given (hf := h10) (hd := rfl) (ha := rfl), ?_⟩; simp (maxSteps := 4000000) only [go_sem, q1, q4, q5, skyRows_len]) | (refine ⟨_, .given (hf := h17) (hd := rfl) (ha := rfl), ?_⟩; simp (maxSteps := 4000000) only [go_sem, q1, q4, q5, skyRows_len]) | (refine ⟨_, .given (hf := h9) (hd := rfl) (ha := rfl), ?_⟩; simp (maxSteps := 4000000) only [go_sem, q1, q4, q5, skyRows_len]))); refine hK _ ?_; clear hK K) | refine walkL_nil ?_ | refine walkL_ret ?_ | refine walkL_exit ?_ | refine blockA_here ?_ | refine blockA_other rfl ?_ | refine blockA_ret ?_ | refine blockA_normal ?_ | refine thenA_ret ?_ | refine thenA_exit ?_ | refine thenA_normal ?_)
            simp (maxSteps := 4000000) only [go_sem]
        · refine fn_walk 132 Tryd.call4 Tryd.func4 rfl (by decide) fun J => ?_
          simp (maxSteps := 4000000) only [go_sem, St.start, Tryd.ntmps4, Tryd.results4]
          repeat (first | refine walkL_true rfl ?_ | refine walkL_false rfl ?_ | refine walkL_seq ?_ | refine walkL_skip ?_ | refine walkL_block ?_ | (refine walkL_region fun K hK => ?_; simp (maxSteps := 4000000) only [go_sem, q1, q4, skyRows_len]; (repeat (first | (refine ⟨_, .lent (hf := h10) (hd := rfl) (hr := rfl), ?_⟩; simp (maxSteps := 4000000) only [go_sem, q1, q4, skyRows_len]) | (refine ⟨_, .lent (hf := h17) (hd := rfl) (hr := rfl), ?_⟩; simp (maxSteps := 4000000) only [go_sem, q1, q4, skyRows_len]) | (refine ⟨_, .lent (hf := h9) (hd := rfl) (hr := rfl), ?_⟩; simp (maxSteps := 4000000) only [go_sem, q1, q4, skyRows_len]) | (refine ⟨_, .given (hf := h10) (hd := rfl) (ha := rfl), ?_⟩; simp (maxSteps := 4000000) only [go_sem, q1, q4, skyRows_len]) | (refine ⟨_, .given (hf := h17) (hd := rfl) (ha := rfl), ?_⟩; simp (maxSteps := 4000000) only [go_sem, q1, q4, skyRows_len]) | (refine ⟨_, .given (hf := h9) (hd := rfl) (ha := rfl), ?_⟩; simp (maxSteps := 4000000) only [go_sem, q1, q4, skyRows_len]))); refine hK _ ?_; clear hK K) | refine walkL_nil ?_ | refine walkL_ret ?_ | refine walkL_exit ?_ | refine blockA_here ?_ | refine blockA_other rfl ?_ | refine blockA_ret ?_ | refine blockA_normal ?_ | refine thenA_ret ?_ | refine thenA_exit ?_ | refine thenA_normal ?_)
          simp (maxSteps := 4000000) only [go_sem]
  · refine fn_walk 132 Tryd.call4 Tryd.func4 rfl (by decide) fun J => ?_
    simp (maxSteps := 4000000) only [go_sem, St.start, Tryd.ntmps4, Tryd.results4]
    repeat (first | refine walkL_true rfl ?_ | refine walkL_false rfl ?_ | refine walkL_seq ?_ | refine walkL_skip ?_ | refine walkL_block ?_ | (refine walkL_region fun K hK => ?_; simp (maxSteps := 4000000) only [go_sem, q1, skyRows_len]; (repeat (first | (refine ⟨_, .lent (hf := h10) (hd := rfl) (hr := rfl), ?_⟩; simp (maxSteps := 4000000) only [go_sem, q1, skyRows_len]) | (refine ⟨_, .given (hf := h10) (hd := rfl) (ha := rfl), ?_⟩; simp (maxSteps := 4000000) only [go_sem, q1, skyRows_len]))); refine hK _ ?_; clear hK K) | refine walkL_nil ?_ | refine walkL_ret ?_ | refine walkL_exit ?_ | refine blockA_here ?_ | refine blockA_other rfl ?_ | refine blockA_ret ?_ | refine blockA_normal ?_ | refine thenA_ret ?_ | refine thenA_exit ?_ | refine thenA_normal ?_)
    simp (maxSteps := 4000000) only [go_sem]
end Go.Ab
namespace Go.Ab
open Go.RowKit Go.Proofs
set_option maxHeartbeats 8000000
set_option maxRecDepth 20000
attribute [local irreducible] WalkL Walk

/-! ### WeatherMore -/

theorem f15 (l : Limits) (y : EaseX) (hl : limB l = true) (ha : 0 ≤ y.wind ∧ y.wind ≤ 1000) (hb : 0 ≤ y.rain ∧ y.rain ≤ 1000) (hc : 0 ≤ y.temp ∧ y.temp ≤ 1000) :
    Fn Tryd.prog 15 [.agg l.row, .agg y.cells] (.agg (widerL l y.wind y.rain y.temp).row) := by
  have hl := lim_iff.1 hl
  have w1 : IntKind.i64.wrap (l.wind + y.wind) = l.wind + y.wind := wr_small (by omega)
  have w2 : IntKind.i64.wrap (l.rain + y.rain) = l.rain + y.rain := wr_small (by omega)
  have w3 : IntKind.i64.wrap (l.temp.lo - y.temp) = l.temp.lo - y.temp := wr_small (by omega)
  have w4 : IntKind.i64.wrap (l.temp.hi + y.temp) = l.temp.hi + y.temp := wr_small (by omega)
  have h38 := f38 (max (-50) (l.temp.lo - y.temp)) (min 50 (l.temp.hi + y.temp))
  refine fn_walk 33 Tryd.call15 Tryd.func15 rfl (by decide) fun J => ?_
  simp (maxSteps := 4000000) only [go_sem, St.start, Tryd.ntmps15, Tryd.results15, Limits.row, EaseX.cells]
  repeat (first | refine walkL_seq ?_ | refine walkL_skip ?_ | refine walkL_block ?_ | (refine walkL_region fun K hK => ?_; simp (maxSteps := 4000000) only [go_sem]; refine hK _ ?_; clear hK K) | refine walkL_nil ?_ | refine walkL_ret ?_ | refine walkL_exit ?_ | refine blockA_here ?_ | refine blockA_other rfl ?_ | refine blockA_ret ?_ | refine blockA_normal ?_ | refine thenA_ret ?_ | refine thenA_exit ?_ | refine thenA_normal ?_)
  refine walkL_drawn (by kernel_rfl) (by kernel_rfl) fun K hK => ?_
  simp (maxSteps := 4000000) only [go_sem, w1, w2, w3, w4]
  refine ⟨_, .fn (hf := h38) (hd := rfl) (hr := .inr rfl), ?_⟩
  simp (maxSteps := 4000000) only [go_sem]
  refine ⟨by kernel_rfl, hK _ ?_⟩
  clear hK K
  repeat (first | refine walkL_seq ?_ | refine walkL_skip ?_ | refine walkL_block ?_ | (refine walkL_region fun K hK => ?_; simp (maxSteps := 4000000) only [go_sem]; refine hK _ ?_; clear hK K) | refine walkL_nil ?_ | refine walkL_ret ?_ | refine walkL_exit ?_ | refine blockA_here ?_ | refine blockA_other rfl ?_ | refine blockA_ret ?_ | refine blockA_normal ?_ | refine thenA_ret ?_ | refine thenA_exit ?_ | refine thenA_normal ?_)
  simp (maxSteps := 4000000) only [go_sem, Limits.row, widerL]
  try rfl

theorem f16 (A B : List Span) (H : Nat) (hA : A.length < 2 ^ 30) (hB : B.length < 2 ^ 30) (hH : H < 2 ^ 30) : Fn Tryd.prog 16 [.sl (spanRows A), .sl (spanRows B), .i H] (.bool (withinS A B H)) := by
  refine fn_walk 22 Tryd.call16 Tryd.func16 rfl (by decide) fun J => ?_
  simp (maxSteps := 4000000) only [go_sem, St.start, Tryd.ntmps16, Tryd.results16]
  repeat (first | refine walkL_seq ?_ | refine walkL_skip ?_ | refine walkL_block ?_ | (refine walkL_region fun K hK => ?_; simp (maxSteps := 4000000) only [go_sem]; refine hK _ ?_; clear hK K) | refine walkL_nil ?_ | refine walkL_ret ?_ | refine walkL_exit ?_ | refine blockA_here ?_ | refine blockA_other rfl ?_ | refine blockA_ret ?_ | refine blockA_normal ?_ | refine thenA_ret ?_ | refine thenA_exit ?_ | refine thenA_normal ?_)
  refine walkL_loopS (fun (i : Nat) => [(7, .d (.i i))]) (fun _ => []) (fun i => i ≤ H ∧ ∀ h < i, inSpans A (h : Int) = true → inSpans B (h : Int) = true) (fun i => H - i) 0 ?_ ⟨Nat.zero_le _, fun h hh => by omega⟩ ?_
  · simp (maxSteps := 4000000) only [go_sem]
    refine weak_of [] ?_ ?_ rfl rfl <;> simp [lessT, lessM, lessB, AV.less]
  · intro i ⟨hi, hin⟩
    simp (maxSteps := 4000000) only [go_sem]
    repeat (first | refine walkL_seq ?_ | refine walkL_skip ?_ | refine walkL_block ?_ | (refine walkL_region fun K hK => ?_; simp (maxSteps := 4000000) only [go_sem]; refine hK _ ?_; clear hK K) | refine walkL_nil ?_ | refine walkL_ret ?_ | refine walkL_exit ?_ | refine blockA_here ?_ | refine blockA_other rfl ?_ | refine blockA_ret ?_ | refine blockA_normal ?_ | refine thenA_ret ?_ | refine thenA_exit ?_ | refine thenA_normal ?_)
    refine walkL_cond rfl (fun hb => ?_) (fun hb => ?_)
    · have hlt : i < H := by simpa using hb
      have hw : IntKind.i64.wrap ((i : Int) + 1) = ((i + 1 : Nat) : Int) := by rw [wr_small (by omega)]; simp
      have hs1 := f31 A (i : Int) hA
      have hs2 := f31 B (i : Int) hB
      have hst : (inSpans A (i : Int) = true → inSpans B (i : Int) = true) → ∀ h < i + 1, inSpans A (h : Int) = true → inSpans B (h : Int) = true := fun hx h hh => by
        by_cases he : h = i
        · subst he; exact hx
        · exact hin h (by omega)
      cases qa : inSpans A (i : Int)
      · rw [qa] at hs1 hst
        repeat (first | refine walkL_true rfl ?_ | refine walkL_false rfl ?_ | refine walkL_seq ?_ | refine walkL_skip ?_ | refine walkL_block ?_ | (refine walkL_region fun K hK => ?_; simp (maxSteps := 4000000) only [go_sem, hw]; (repeat (first | (refine ⟨_, .lent (hf := hs1) (hd := rfl) (hr := rfl), ?_⟩; simp (maxSteps := 4000000) only [go_sem, hw]) | (refine ⟨_, .given (hf := hs1) (hd := rfl) (ha := rfl), ?_⟩; simp (maxSteps := 4000000) only [go_sem, hw]))); refine hK _ ?_; clear hK K) | refine walkL_nil ?_ | refine walkL_ret ?_ | refine walkL_exit ?_ | refine blockA_here ?_ | refine blockA_other rfl ?_ | refine blockA_ret ?_ | refine blockA_normal ?_ | refine thenA_ret ?_ | refine thenA_exit ?_ | refine thenA_normal ?_)
        refine ⟨rfl, i + 1, ?_, ⟨hlt, hst (fun h => by cases h)⟩, by omega⟩
        refine weak_of [] ?_ ?_ rfl rfl <;> simp [lessT, lessM, lessB, AV.less]
      · cases qb : inSpans B (i : Int)
        · have e : withinS A B H = false := by
            cases hx : withinS A B H
            · rfl
            · have := withinS_iff.1 hx i hlt qa
              rw [qb] at this
              cases this
          rw [e]
          rw [qa] at hs1
          rw [qb] at hs2
          repeat (first | refine walkL_true rfl ?_ | refine walkL_false rfl ?_ | refine walkL_seq ?_ | refine walkL_skip ?_ | refine walkL_block ?_ | (refine walkL_region fun K hK => ?_; simp (maxSteps := 4000000) only [go_sem, hw]; (repeat (first | (refine ⟨_, .lent (hf := hs1) (hd := rfl) (hr := rfl), ?_⟩; simp (maxSteps := 4000000) only [go_sem, hw]) | (refine ⟨_, .lent (hf := hs2) (hd := rfl) (hr := rfl), ?_⟩; simp (maxSteps := 4000000) only [go_sem, hw]) | (refine ⟨_, .given (hf := hs1) (hd := rfl) (ha := rfl), ?_⟩; simp (maxSteps := 4000000) only [go_sem, hw]) | (refine ⟨_, .given (hf := hs2) (hd := rfl) (ha := rfl), ?_⟩; simp (maxSteps := 4000000) only [go_sem, hw]))); refine hK _ ?_; clear hK K) | refine walkL_nil ?_ | refine walkL_ret ?_ | refine walkL_exit ?_ | refine blockA_here ?_ | refine blockA_other rfl ?_ | refine blockA_ret ?_ | refine blockA_normal ?_ | refine thenA_ret ?_ | refine thenA_exit ?_ | refine thenA_normal ?_)
          simp (maxSteps := 4000000) only [go_sem]
        · rw [qb] at hst
          rw [qa] at hs1
          rw [qb] at hs2
          repeat (first | refine walkL_true rfl ?_ | refine walkL_false rfl ?_ | refine walkL_seq ?_ | refine walkL_skip ?_ | refine walkL_block ?_ | (refine walkL_region fun K hK => ?_; simp (maxSteps := 4000000) only [go_sem, hw]; (repeat (first | (refine ⟨_, .lent (hf := hs1) (hd := rfl) (hr := rfl), ?_⟩; simp (maxSteps := 4000000) only [go_sem, hw]) | (refine ⟨_, .lent (hf := hs2) (hd := rfl) (hr := rfl), ?_⟩; simp (maxSteps := 4000000) only [go_sem, hw]) | (refine ⟨_, .given (hf := hs1) (hd := rfl) (ha := rfl), ?_⟩; simp (maxSteps := 4000000) only [go_sem, hw]) | (refine ⟨_, .given (hf := hs2) (hd := rfl) (ha := rfl), ?_⟩; simp (maxSteps := 4000000) only [go_sem, hw]))); refine hK _ ?_; clear hK K) | refine walkL_nil ?_ | refine walkL_ret ?_ | refine walkL_exit ?_ | refine blockA_here ?_ | refine blockA_other rfl ?_ | refine blockA_ret ?_ | refine blockA_normal ?_ | refine thenA_ret ?_ | refine thenA_exit ?_ | refine thenA_normal ?_)
          refine ⟨rfl, i + 1, ?_, ⟨hlt, hst (fun _ => rfl)⟩, by omega⟩
          refine weak_of [] ?_ ?_ rfl rfl <;> simp [lessT, lessM, lessB, AV.less]
    · have he : i = H := by (have : ¬ i < H := by simpa using hb); omega
      subst he
      rw [withinS_iff.2 hin]
      repeat (first | refine walkL_seq ?_ | refine walkL_skip ?_ | refine walkL_block ?_ | (refine walkL_region fun K hK => ?_; simp (maxSteps := 4000000) only [go_sem]; refine hK _ ?_; clear hK K) | refine walkL_nil ?_ | refine walkL_ret ?_ | refine walkL_exit ?_ | refine blockA_here ?_ | refine blockA_other rfl ?_ | refine blockA_ret ?_ | refine blockA_normal ?_ | refine thenA_ret ?_ | refine thenA_exit ?_ | refine thenA_normal ?_)
      simp (maxSteps := 4000000) only [go_sem]
end Go.Ab
