/- A walk engine over abstract states, and the contracts of the functions that the statement reaches: part 5. -/
import Derived.Test.YtlcbalngfpgjdaaGreatDoorWd
import Derived.ChangeArms
import Derived.Test.YtlcbalngfpgjdaaGreatDoorRows
import Derived.JoinedCond
import Derived.Carry
import Derived.RowKit
import Derived.LaidMore
import Derived.LaidLaws
import Derived.LaidHandle
import Derived.MakeChecks
import Derived.Deep.Strs
set_option linter.unusedVariables false
set_option linter.unusedSimpArgs false
set_option linter.unnecessarySimpa false
namespace Go.Ab
open Go.RowKit Go.Proofs
set_option maxHeartbeats 8000000
set_option maxRecDepth 20000
attribute [local irreducible] WalkL Walk

/-! ### The rules of a path -/

theorem hid_prog : hidP Tryz.prog = true := by kernel_rfl
attribute [go_sem] hid_prog

def andL (a l : Limits) : Limits := ⟨min a.wind l.wind, min a.rain l.rain, ⟨max a.temp.lo l.temp.lo, min a.temp.hi l.temp.hi⟩⟩
def wideL : Limits := ⟨200, 100, ⟨-50, 50⟩⟩

theorem f158 (a l : Limits) : Fn Tryz.prog 158 [.agg a.row, .agg l.row] (.agg (andL a l).row) := by
  refine fn_walk 36 Tryz.call158 Tryz.func158 rfl (by decide) fun J => ?_
  simp (maxSteps := 4000000) only [go_sem, St.start, Tryz.ntmps158, Tryz.results158, Limits.row]
  repeat (first | refine walkL_seq ?_ | refine walkL_skip ?_ | refine walkL_block ?_ | (refine walkL_region fun K hK => ?_; simp (maxSteps := 4000000) only [go_sem]; refine hK _ ?_; clear hK K) | refine walkL_nil ?_ | refine walkL_ret ?_ | refine walkL_exit ?_ | refine blockA_here ?_ | refine blockA_other rfl ?_ | refine blockA_ret ?_ | refine blockA_normal ?_ | refine thenA_ret ?_ | refine thenA_exit ?_ | refine thenA_normal ?_)
  simp (maxSteps := 4000000) only [go_sem, andL, Limits.row]

/-- The limits that an hour must keep for the path to be open in another one. -/
def limF (rules : List Rule) (before hour : Int) : Limits := rules.foldl (fun l x => if decide (hour - x.after ≤ before) then andL l x.lim else l) wideL

theorem f140 (o : DV) (rules : List Rule) (before hour : Int) (ha : ∀ x ∈ rules, 0 ≤ x.after ∧ x.after ≤ 48) (hh : 0 ≤ hour ∧ hour ≤ 1000) (hl : rules.length < 2 ^ 30) :
    Fn Tryz.prog 140 [.ptr [o, .sl (ruleRows rules)] 0, .i before, .i hour] (.agg (limF rules before hour).row) := by
  refine fn_walk 32 Tryz.call140 Tryz.func140 rfl (by decide) fun J => ?_
  simp (maxSteps := 4000000) only [go_sem, St.start, Tryz.ntmps140, Tryz.results140]
  repeat (first | refine walkL_seq ?_ | refine walkL_skip ?_ | refine walkL_block ?_ | (refine walkL_region fun K hK => ?_; simp (maxSteps := 4000000) only [go_sem]; refine hK _ ?_; clear hK K) | refine walkL_nil ?_ | refine walkL_ret ?_ | refine walkL_exit ?_ | refine blockA_here ?_ | refine blockA_other rfl ?_ | refine blockA_ret ?_ | refine blockA_normal ?_ | refine thenA_ret ?_ | refine thenA_exit ?_ | refine thenA_normal ?_)
  refine walkL_loopS (fun (i : Nat) => [(16, .d (.i i))]) (fun i => [(7, some (.box ((limF (rules.take i) before hour).row.map AV.d)))]) (fun i => i ≤ rules.length) (fun i => rules.length - i) 0 ?_ (Nat.zero_le _) ?_
  · simp (maxSteps := 4000000) only [go_sem, Limits.row, List.map_cons, List.map_nil]
    refine weak_of [] ?_ ?_ rfl rfl <;> simp [lessT, lessM, lessB, AV.less]
    all_goals first | done | rfl | exact ⟨rfl, rfl, rfl, rfl⟩
  · intro i hi
    obtain ⟨a, ha0⟩ : ∃ a, a = limF (rules.take i) before hour := ⟨_, rfl⟩
    rw [← ha0]
    simp (maxSteps := 4000000) only [go_sem, Limits.row, List.map_cons, List.map_nil]
    repeat (first | refine walkL_seq ?_ | refine walkL_skip ?_ | refine walkL_block ?_ | (refine walkL_region fun K hK => ?_; simp (maxSteps := 4000000) only [go_sem]; refine hK _ ?_; clear hK K) | refine walkL_nil ?_ | refine walkL_ret ?_ | refine walkL_exit ?_ | refine blockA_here ?_ | refine blockA_other rfl ?_ | refine blockA_ret ?_ | refine blockA_normal ?_ | refine thenA_ret ?_ | refine thenA_exit ?_ | refine thenA_normal ?_)
    refine walkL_cond rfl (fun hb => ?_) (fun hb => ?_)
    · have hlt : i < rules.length := by simpa using hb
      have hw : IntKind.i64.wrap ((i : Int) + 1) = ((i + 1 : Nat) : Int) := by rw [wr_small (by omega)]; simp
      obtain ⟨x, hx⟩ : ∃ x, rules[i]? = some x := ⟨_, List.getElem?_eq_getElem hlt⟩
      have g1 := ruleRows_at hx
      have hax := ha x (List.mem_of_getElem? hx)
      have w1 : IntKind.i64.wrap (hour - x.after) = hour - x.after := wr_small (by omega)
      have n1 : limF (rules.take (i + 1)) before hour = if decide (hour - x.after ≤ before) then andL a x.lim else a := by rw [ha0]; exact foldl_take_succ _ _ _ _ _ hx
      have c1 := f158 a x.lim
      simp only [Limits.row] at c1
      cases q : decide (hour - x.after ≤ before)
      all_goals
        rw [q] at n1
        simp only [Bool.false_eq_true, if_false, if_true] at n1
        repeat (first | refine walkL_true rfl ?_ | refine walkL_false rfl ?_ | refine walkL_seq ?_ | refine walkL_skip ?_ | refine walkL_block ?_ | (refine walkL_region fun K hK => ?_; simp (maxSteps := 4000000) only [go_sem, g1, Rule.row, w1, q, hw]; (repeat (first | (refine ⟨_, .lent (hf := c1) (hd := rfl) (hr := rfl), ?_⟩; simp (maxSteps := 4000000) only [go_sem, g1, Rule.row, w1, q, hw]) | (refine ⟨_, .given (hf := c1) (hd := rfl) (ha := rfl), ?_⟩; simp (maxSteps := 4000000) only [go_sem, g1, Rule.row, w1, q, hw]))); refine hK _ ?_; clear hK K) | refine walkL_nil ?_ | refine walkL_ret ?_ | refine walkL_exit ?_ | refine blockA_here ?_ | refine blockA_other rfl ?_ | refine blockA_ret ?_ | refine blockA_normal ?_ | refine thenA_ret ?_ | refine thenA_exit ?_ | refine thenA_normal ?_)
        refine ⟨rfl, i + 1, ?_, hlt, by omega⟩
        rw [n1]
        refine weak_of [] ?_ ?_ rfl rfl <;> simp [lessT, lessM, lessB, AV.less]
        all_goals first | done | rfl | simp [Limits.row]
    · have he : i = rules.length := by (have : ¬ i < rules.length := by simpa using hb); omega
      subst he
      rw [List.take_length] at ha0
      rw [← ha0]
      repeat (first | refine walkL_seq ?_ | refine walkL_skip ?_ | refine walkL_block ?_ | (refine walkL_region fun K hK => ?_; simp (maxSteps := 4000000) only [go_sem]; refine hK _ ?_; clear hK K) | refine walkL_nil ?_ | refine walkL_ret ?_ | refine walkL_exit ?_ | refine blockA_here ?_ | refine blockA_other rfl ?_ | refine blockA_ret ?_ | refine blockA_normal ?_ | refine thenA_ret ?_ | refine thenA_exit ?_ | refine thenA_normal ?_)
      simp (maxSteps := 4000000) only [go_sem, Limits.row]

/-- The hours up to one, each for this one, keep the limits of the rules in a way. -/
def keepsB (kf : Limits → Hour → Bool) (rules : List Rule) (s : List Hour) (hour : Nat) : Bool := (List.range (hour + 1)).all fun b => kf (limF rules (b : Int) (hour : Int)) (hourAt s (b : Int))

theorem range_all_succ (q : Nat → Bool) (n : Nat) : (List.range (n + 1)).all q = ((List.range n).all q && q n) := by
  rw [List.range_succ, List.all_append]; simp
theorem range_all_bad {q : Nat → Bool} {i n : Nat} (hi : i < n) (h : q i = false) : (List.range n).all q = false := by
  cases hc : (List.range n).all q with
  | false => rfl
  | true => rw [List.all_eq_true] at hc; have := hc i (List.mem_range.2 hi); rw [h] at this; cases this

theorem f92 (o : DV) (rules : List Rule) (s : List Hour) (hour : Nat) (g : Nat) (kf : Limits → Hour → Bool) (hk : ∀ L h, Fn Tryz.prog g [.agg L.row, .agg h.row] (.bool (kf L h))) (ha : ∀ x ∈ rules, 0 ≤ x.after ∧ x.after ≤ 48) (hh : hour < s.length) (hs : s.length ≤ 48) (hl : rules.length < 2 ^ 30) :
    Fn Tryz.prog 92 [.ptr [o, .sl (ruleRows rules)] 0, .sl (hourRows s), .i hour, .fn g []] (.bool (keepsB kf rules s hour)) := by
  have w0 : IntKind.i64.wrap ((hour : Int) + 1) = ((hour + 1 : Nat) : Int) := by rw [wr_small (by omega)]; simp
  refine fn_walk 27 Tryz.call92 Tryz.func92 rfl (by decide) fun J => ?_
  simp (maxSteps := 4000000) only [go_sem, St.start, Tryz.ntmps92, Tryz.results92]
  repeat (first | refine walkL_seq ?_ | refine walkL_skip ?_ | refine walkL_block ?_ | (refine walkL_region fun K hK => ?_; simp (maxSteps := 4000000) only [go_sem, w0]; refine hK _ ?_; clear hK K) | refine walkL_nil ?_ | refine walkL_ret ?_ | refine walkL_exit ?_ | refine blockA_here ?_ | refine blockA_other rfl ?_ | refine blockA_ret ?_ | refine blockA_normal ?_ | refine thenA_ret ?_ | refine thenA_exit ?_ | refine thenA_normal ?_)
  refine walkL_loopS (fun (i : Nat) => [(12, .d (.i i)), (9, .undef)]) (fun _ => []) (fun i => i ≤ hour + 1 ∧ ((List.range i).all fun b => kf (limF rules (b : Int) (hour : Int)) (hourAt s (b : Int))) = true) (fun i => hour + 1 - i) 0 ?_ ⟨Nat.zero_le _, rfl⟩ ?_
  · simp (maxSteps := 4000000) only [go_sem]
    refine weak_of [] ?_ ?_ rfl rfl <;> simp [lessT, lessM, lessB, AV.less]
  · intro i ⟨hi, hall⟩
    simp (maxSteps := 4000000) only [go_sem]
    repeat (first | refine walkL_seq ?_ | refine walkL_skip ?_ | refine walkL_block ?_ | (refine walkL_region fun K hK => ?_; simp (maxSteps := 4000000) only [go_sem]; refine hK _ ?_; clear hK K) | refine walkL_nil ?_ | refine walkL_ret ?_ | refine walkL_exit ?_ | refine blockA_here ?_ | refine blockA_other rfl ?_ | refine blockA_ret ?_ | refine blockA_normal ?_ | refine thenA_ret ?_ | refine thenA_exit ?_ | refine thenA_normal ?_)
    refine walkL_cond rfl (fun hb => ?_) (fun hb => ?_)
    · have hlt : i < hour + 1 := by have := of_decide_eq_true hb; omega
      have hw : IntKind.i64.wrap ((i : Int) + 1) = ((i + 1 : Nat) : Int) := by rw [wr_small (by omega)]; simp
      have c1 := f140 o rules i hour ha ⟨by omega, by omega⟩ hl
      have g1 := hourRows_at (hourAt_get (l := s) (i := (i : Int)) ⟨by omega, by omega⟩)
      rw [Int.toNat_natCast] at g1
      have c2 := hk (limF rules i hour) (hourAt s (i : Int))
      have n1 := range_all_succ (fun b => kf (limF rules (b : Int) (hour : Int)) (hourAt s (b : Int))) i
      rw [hall, Bool.true_and] at n1
      cases q : kf (limF rules i hour) (hourAt s (i : Int))
      · have e : keepsB kf rules s hour = false := range_all_bad hlt q
        rw [e]
        rw [q] at c2
        rw [Hour.row] at c2 g1
        repeat (first | refine walkL_true rfl ?_ | refine walkL_false rfl ?_ | refine walkL_seq ?_ | refine walkL_skip ?_ | refine walkL_block ?_ | (refine walkL_region fun K hK => ?_; simp (maxSteps := 4000000) only [go_sem]; refine hK _ ?_; clear hK K) | refine walkL_nil ?_ | refine walkL_ret ?_ | refine walkL_exit ?_ | refine blockA_here ?_ | refine blockA_other rfl ?_ | refine blockA_ret ?_ | refine blockA_normal ?_ | refine thenA_ret ?_ | refine thenA_exit ?_ | refine thenA_normal ?_)
        refine walkL_drawn (by kernel_rfl) (by kernel_rfl) fun K hK => ?_
        simp (maxSteps := 4000000) only [go_sem]
        refine ⟨_, .fn (hf := c1) (hd := rfl) (hr := .inr rfl), ?_⟩
        simp (maxSteps := 4000000) only [go_sem, g1]
        refine ⟨_, .fn (hf := c2) (hd := rfl) (hr := .inr rfl), ?_⟩
        simp (maxSteps := 4000000) only [go_sem]
        refine ⟨by kernel_rfl, hK _ ?_⟩
        clear hK K
        repeat (first | refine walkL_true rfl ?_ | refine walkL_false rfl ?_ | refine walkL_seq ?_ | refine walkL_skip ?_ | refine walkL_block ?_ | (refine walkL_region fun K hK => ?_; simp (maxSteps := 4000000) only [go_sem]; refine hK _ ?_; clear hK K) | refine walkL_nil ?_ | refine walkL_ret ?_ | refine walkL_exit ?_ | refine blockA_here ?_ | refine blockA_other rfl ?_ | refine blockA_ret ?_ | refine blockA_normal ?_ | refine thenA_ret ?_ | refine thenA_exit ?_ | refine thenA_normal ?_)
        simp (maxSteps := 4000000) only [go_sem]
      · rw [q] at c2 n1
        rw [Hour.row] at c2 g1
        repeat (first | refine walkL_true rfl ?_ | refine walkL_false rfl ?_ | refine walkL_seq ?_ | refine walkL_skip ?_ | refine walkL_block ?_ | (refine walkL_region fun K hK => ?_; simp (maxSteps := 4000000) only [go_sem]; refine hK _ ?_; clear hK K) | refine walkL_nil ?_ | refine walkL_ret ?_ | refine walkL_exit ?_ | refine blockA_here ?_ | refine blockA_other rfl ?_ | refine blockA_ret ?_ | refine blockA_normal ?_ | refine thenA_ret ?_ | refine thenA_exit ?_ | refine thenA_normal ?_)
        refine walkL_drawn (by kernel_rfl) (by kernel_rfl) fun K hK => ?_
        simp (maxSteps := 4000000) only [go_sem]
        refine ⟨_, .fn (hf := c1) (hd := rfl) (hr := .inr rfl), ?_⟩
        simp (maxSteps := 4000000) only [go_sem, g1]
        refine ⟨_, .fn (hf := c2) (hd := rfl) (hr := .inr rfl), ?_⟩
        simp (maxSteps := 4000000) only [go_sem]
        refine ⟨by kernel_rfl, hK _ ?_⟩
        clear hK K
        repeat (first | refine walkL_true rfl ?_ | refine walkL_false rfl ?_ | refine walkL_seq ?_ | refine walkL_skip ?_ | refine walkL_block ?_ | (refine walkL_region fun K hK => ?_; simp (maxSteps := 4000000) only [go_sem, hw]; refine hK _ ?_; clear hK K) | refine walkL_nil ?_ | refine walkL_ret ?_ | refine walkL_exit ?_ | refine blockA_here ?_ | refine blockA_other rfl ?_ | refine blockA_ret ?_ | refine blockA_normal ?_ | refine thenA_ret ?_ | refine thenA_exit ?_ | refine thenA_normal ?_)
        refine ⟨rfl, i + 1, ?_, ⟨hlt, n1⟩, by omega⟩
        refine weak_of [] ?_ ?_ rfl rfl <;> simp [lessT, lessM, lessB, AV.less]
    · have he : i = hour + 1 := by have := of_decide_eq_false hb; omega
      subst he
      have e : keepsB kf rules s hour = true := hall
      rw [e]
      repeat (first | refine walkL_seq ?_ | refine walkL_skip ?_ | refine walkL_block ?_ | (refine walkL_region fun K hK => ?_; simp (maxSteps := 4000000) only [go_sem]; refine hK _ ?_; clear hK K) | refine walkL_nil ?_ | refine walkL_ret ?_ | refine walkL_exit ?_ | refine blockA_here ?_ | refine blockA_other rfl ?_ | refine blockA_ret ?_ | refine blockA_normal ?_ | refine thenA_ret ?_ | refine thenA_exit ?_ | refine thenA_normal ?_)
      simp (maxSteps := 4000000) only [go_sem]

theorem f91 (o : DV) (rules : List Rule) (s : List Hour) (hour : Nat) (ha : ∀ x ∈ rules, 0 ≤ x.after ∧ x.after ≤ 48) (hh : hour < s.length) (hs : s.length ≤ 48) (hl : rules.length < 2 ^ 30) :
    Fn Tryz.prog 91 [.sl (hourRows s), .i hour, .ptr [.ptr [o, .sl (ruleRows rules)] 0] 0] (.bool (keepsB alwaysB rules s hour)) := by
  have c := f92 o rules s hour 63 alwaysB f63 ha hh hs hl
  refine fn_walk 10 Tryz.call91 Tryz.func91 rfl (by decide) fun J => ?_
  simp (maxSteps := 4000000) only [go_sem, St.start, Tryz.ntmps91, Tryz.results91]
  repeat (first | refine walkL_seq ?_ | refine walkL_skip ?_ | refine walkL_block ?_ | (refine walkL_region fun K hK => ?_; simp (maxSteps := 4000000) only [go_sem]; (repeat (first | (refine ⟨_, .lent (hf := c) (hd := rfl) (hr := rfl), ?_⟩; simp (maxSteps := 4000000) only [go_sem]) | (refine ⟨_, .given (hf := c) (hd := rfl) (ha := rfl), ?_⟩; simp (maxSteps := 4000000) only [go_sem]))); refine hK _ ?_; clear hK K) | refine walkL_nil ?_ | refine walkL_ret ?_ | refine walkL_exit ?_ | refine blockA_here ?_ | refine blockA_other rfl ?_ | refine blockA_ret ?_ | refine blockA_normal ?_ | refine thenA_ret ?_ | refine thenA_exit ?_ | refine thenA_normal ?_)
  simp (maxSteps := 4000000) only [go_sem]
theorem f93 (o : DV) (rules : List Rule) (s : List Hour) (hour : Nat) (ha : ∀ x ∈ rules, 0 ≤ x.after ∧ x.after ≤ 48) (hh : hour < s.length) (hs : s.length ≤ 48) (hl : rules.length < 2 ^ 30) :
    Fn Tryz.prog 93 [.sl (hourRows s), .i hour, .ptr [.ptr [o, .sl (ruleRows rules)] 0] 0] (.bool (keepsB everB rules s hour)) := by
  have c := f92 o rules s hour 66 everB f66 ha hh hs hl
  refine fn_walk 10 Tryz.call93 Tryz.func93 rfl (by decide) fun J => ?_
  simp (maxSteps := 4000000) only [go_sem, St.start, Tryz.ntmps93, Tryz.results93]
  repeat (first | refine walkL_seq ?_ | refine walkL_skip ?_ | refine walkL_block ?_ | (refine walkL_region fun K hK => ?_; simp (maxSteps := 4000000) only [go_sem]; (repeat (first | (refine ⟨_, .lent (hf := c) (hd := rfl) (hr := rfl), ?_⟩; simp (maxSteps := 4000000) only [go_sem]) | (refine ⟨_, .given (hf := c) (hd := rfl) (ha := rfl), ?_⟩; simp (maxSteps := 4000000) only [go_sem]))); refine hK _ ?_; clear hK K) | refine walkL_nil ?_ | refine walkL_ret ?_ | refine walkL_exit ?_ | refine blockA_here ?_ | refine blockA_other rfl ?_ | refine blockA_ret ?_ | refine blockA_normal ?_ | refine thenA_ret ?_ | refine thenA_exit ?_ | refine thenA_normal ?_)
  simp (maxSteps := 4000000) only [go_sem]

def openS (rules : List Rule) (S : List (List Hour)) (H : Nat) : List Span := spansQ (fun i => S.all fun s => keepsB alwaysB rules s i) H
def openM (rules : List Rule) (S : List (List Hour)) (H : Nat) : List Span := spansQ (fun i => S.any fun s => keepsB everB rules s i) H

theorem f41 (N : List Int) (S : List (List Hour)) (H : Nat) (rules : List Rule) (ha : ∀ x ∈ rules, 0 ≤ x.after ∧ x.after ≤ 48) (hS : ∀ s ∈ S, s.length = H) (hH : H ≤ 48) (hSl : S.length < 2 ^ 30) (hl : rules.length < 2 ^ 30) :
    Fn Tryz.prog 41 [.ptr [outV N S H, .sl (ruleRows rules)] 0] (.tup [.sl (spanRows (openS rules S H)), .sl (spanRows (openM rules S H))]) := by
  have h41 := f61 N S H 91 [.ptr [.ptr [outV N S H, .sl (ruleRows rules)] 0] 0] (fun s i => keepsB alwaysB rules s i) (fun s hs i hi => f91 _ rules s i ha (by rw [hS s hs]; exact hi) (by rw [hS s hs]; exact hH) hl) hSl (by omega)
  have h44 := f64 N S H 93 [.ptr [.ptr [outV N S H, .sl (ruleRows rules)] 0] 0] (fun s i => keepsB everB rules s i) (fun s hs i hi => f93 _ rules s i ha (by rw [hS s hs]; exact hi) (by rw [hS s hs]; exact hH) hl) hSl (by omega)
  change FnS Tryz.prog 61 _ 48 2 (spanRows (openS rules S H)) at h41
  change FnS Tryz.prog 64 _ 48 2 (spanRows (openM rules S H)) at h44
  obtain ⟨A, hA⟩ : ∃ A, A = openS rules S H := ⟨_, rfl⟩
  obtain ⟨B, hB⟩ : ∃ B, B = openM rules S H := ⟨_, rfl⟩
  rw [← hA] at h41 ⊢
  rw [← hB] at h44 ⊢
  rw [outV] at h41 h44
  refine fn_walk 18 Tryz.call41 Tryz.func41 rfl (by decide) fun J => ?_
  simp (maxSteps := 4000000) only [go_sem, St.start, Tryz.ntmps41, Tryz.results41, outV]
  repeat (first | refine walkL_seq ?_ | refine walkL_skip ?_ | refine walkL_block ?_ | (refine walkL_region fun K hK => ?_; simp (maxSteps := 4000000) only [go_sem]; refine hK _ ?_; clear hK K) | refine walkL_nil ?_ | refine walkL_ret ?_ | refine walkL_exit ?_ | refine blockA_here ?_ | refine blockA_other rfl ?_ | refine blockA_ret ?_ | refine blockA_normal ?_ | refine thenA_ret ?_ | refine thenA_exit ?_ | refine thenA_normal ?_)
  refine walkL_region fun K hK => ?_
  simp (maxSteps := 4000000) only [go_sem]
  refine ⟨_, .lentS (hdst := rfl) (hf := h41) (hd := rfl) (hr := by first | exact rowsFlat_int _ | exact rowsFlat_hour _ | exact rowsFlat_sight _ | exact rowsFlat_sky _ | exact rowsFlat_span _ | exact rowsFlat_bool _) (hfr := rfl), ?_⟩
  simp (maxSteps := 4000000) only [go_sem]
  refine hK _ ?_
  clear hK K
  repeat (first | refine walkL_seq ?_ | refine walkL_skip ?_ | refine walkL_block ?_ | (refine walkL_region fun K hK => ?_; simp (maxSteps := 4000000) only [go_sem]; refine hK _ ?_; clear hK K) | refine walkL_nil ?_ | refine walkL_ret ?_ | refine walkL_exit ?_ | refine blockA_here ?_ | refine blockA_other rfl ?_ | refine blockA_ret ?_ | refine blockA_normal ?_ | refine thenA_ret ?_ | refine thenA_exit ?_ | refine thenA_normal ?_)
  refine walkL_region fun K hK => ?_
  simp (maxSteps := 4000000) only [go_sem]
  refine ⟨_, .lentS (hdst := rfl) (hf := h44) (hd := rfl) (hr := by first | exact rowsFlat_int _ | exact rowsFlat_hour _ | exact rowsFlat_sight _ | exact rowsFlat_sky _ | exact rowsFlat_span _ | exact rowsFlat_bool _) (hfr := rfl), ?_⟩
  simp (maxSteps := 4000000) only [go_sem]
  refine hK _ ?_
  clear hK K
  repeat (first | refine walkL_seq ?_ | refine walkL_skip ?_ | refine walkL_block ?_ | (refine walkL_region fun K hK => ?_; simp (maxSteps := 4000000) only [go_sem]; refine hK _ ?_; clear hK K) | refine walkL_nil ?_ | refine walkL_ret ?_ | refine walkL_exit ?_ | refine blockA_here ?_ | refine blockA_other rfl ?_ | refine blockA_ret ?_ | refine blockA_normal ?_ | refine thenA_ret ?_ | refine thenA_exit ?_ | refine thenA_normal ?_)
  simp (maxSteps := 4000000) only [go_sem]

/-! ### The rules of one path -/

def ofPath (l : List Rule) (p : Int) : List Rule := l.filter fun x => x.path == p

theorem f47 (ro : List DV) (l : List Rule) (p : Int) (hl : l.length < 2 ^ 30) : Fn Tryz.prog 47 [.ptr [.ptr ro 0, .sl (ruleRows l)] 0, .i p] (.ptr [.ptr ro 0, .sl (ruleRows (ofPath l p))] 0) := by
  have h94 := f97 l hl
  have ef : (l.filter fun x => !(x.path != p)) = ofPath l p := by unfold ofPath; congr 1; funext x; simp [bne]
  rcases f96 l 98 [.ptr [.i p] 0] (fun x => x.path != p) (fun x _ => f98 x p) hl with ⟨hno, h93⟩ | ⟨k, X, x1, x2, x3, x4, h93⟩
  · have e : ofPath l p = l := by
      rw [← ef]
      exact List.filter_eq_self.2 fun x hx => by rw [hno x hx]; rfl
    rw [e]
    refine fn_walk 18 Tryz.call47 Tryz.func47 rfl (by decide) fun J => ?_
    simp (maxSteps := 4000000) only [go_sem, St.start, Tryz.ntmps47, Tryz.results47]
    repeat (first | refine walkL_seq ?_ | refine walkL_skip ?_ | refine walkL_block ?_ | (refine walkL_region fun K hK => ?_; simp (maxSteps := 4000000) only [go_sem]; refine hK _ ?_; clear hK K) | refine walkL_nil ?_ | refine walkL_ret ?_ | refine walkL_exit ?_ | refine blockA_here ?_ | refine blockA_other rfl ?_ | refine blockA_ret ?_ | refine blockA_normal ?_ | refine thenA_ret ?_ | refine thenA_exit ?_ | refine thenA_normal ?_)
    refine walkL_drawn (by kernel_rfl) (by kernel_rfl) fun K hK => ?_
    simp (maxSteps := 4000000) only [go_sem]
    refine ⟨_, .fnS (hdst := rfl) (hf := h94) (hd := rfl) (hr := .inr rfl) (hfr := rfl), ?_⟩
    simp (maxSteps := 4000000) only [go_sem]
    refine ⟨_, .inPlaceR (n := 13) (rd := [3]) (hf := h93) (hn := rfl) (hb := rfl) (hla := rfl) (ha := argG_all (by repeat (first | exact trivial | refine And.intro ?_ ?_ | exact argG_ren rfl | exact argG_deep rfl rfl))) (hx := by first | decide | simp [AV.refsAll, AV.refs, AV.refs.AV.refss]) (hrx := by first | decide | simp [AV.refsAll, AV.refs, AV.refs.AV.refss]) (hrd := by decide) (hsh := by intro n hn row hrow k hk; simp at hn; subst hn; simp at hrow; subst hrow; simp [AV.refs, AV.refs.AV.refss] at hk) (hfl := ⟨rfl, by simp only [Blk.flatB, List.all_eq_true]; exact rowsFlat_rule l⟩), ?_⟩
    simp (maxSteps := 4000000) only [go_sem]
    refine ⟨by kernel_rfl, hK _ ?_⟩
    clear hK K
    repeat (first | refine walkL_seq ?_ | refine walkL_skip ?_ | refine walkL_block ?_ | (refine walkL_region fun K hK => ?_; simp (maxSteps := 4000000) only [go_sem]; refine hK _ ?_; clear hK K) | refine walkL_nil ?_ | refine walkL_ret ?_ | refine walkL_exit ?_ | refine blockA_here ?_ | refine blockA_other rfl ?_ | refine blockA_ret ?_ | refine blockA_normal ?_ | refine thenA_ret ?_ | refine thenA_exit ?_ | refine thenA_normal ?_)
    simp (maxSteps := 4000000) only [go_sem]
  · rw [ef] at x1
    have x5 : (List.drop 0 X).take k = ruleRows (ofPath l p) := by simpa using x1
    refine fn_walk 18 Tryz.call47 Tryz.func47 rfl (by decide) fun J => ?_
    simp (maxSteps := 4000000) only [go_sem, St.start, Tryz.ntmps47, Tryz.results47]
    repeat (first | refine walkL_seq ?_ | refine walkL_skip ?_ | refine walkL_block ?_ | (refine walkL_region fun K hK => ?_; simp (maxSteps := 4000000) only [go_sem]; refine hK _ ?_; clear hK K) | refine walkL_nil ?_ | refine walkL_ret ?_ | refine walkL_exit ?_ | refine blockA_here ?_ | refine blockA_other rfl ?_ | refine blockA_ret ?_ | refine blockA_normal ?_ | refine thenA_ret ?_ | refine thenA_exit ?_ | refine thenA_normal ?_)
    refine walkL_drawn (by kernel_rfl) (by kernel_rfl) fun K hK => ?_
    simp (maxSteps := 4000000) only [go_sem]
    refine ⟨_, .fnS (hdst := rfl) (hf := h94) (hd := rfl) (hr := .inr rfl) (hfr := rfl), ?_⟩
    simp (maxSteps := 4000000) only [go_sem]
    refine ⟨_, .inPlaceR (n := 13) (rd := [3]) (hf := h93) (hn := rfl) (hb := rfl) (hla := rfl) (ha := argG_all (by repeat (first | exact trivial | refine And.intro ?_ ?_ | exact argG_ren rfl | exact argG_deep rfl rfl))) (hx := by first | decide | simp [AV.refsAll, AV.refs, AV.refs.AV.refss]) (hrx := by first | decide | simp [AV.refsAll, AV.refs, AV.refs.AV.refss]) (hrd := by decide) (hsh := by intro n hn row hrow k hk; simp at hn; subst hn; simp at hrow; subst hrow; simp [AV.refs, AV.refs.AV.refss] at hk) (hfl := ⟨rfl, x4⟩), ?_⟩
    simp (maxSteps := 4000000) only [go_sem]
    refine ⟨by kernel_rfl, hK _ ?_⟩
    clear hK K
    repeat (first | refine walkL_seq ?_ | refine walkL_skip ?_ | refine walkL_block ?_ | (refine walkL_region fun K hK => ?_; simp (maxSteps := 4000000) only [go_sem]; refine hK _ ?_; clear hK K) | refine walkL_nil ?_ | refine walkL_ret ?_ | refine walkL_exit ?_ | refine blockA_here ?_ | refine blockA_other rfl ?_ | refine blockA_ret ?_ | refine blockA_normal ?_ | refine thenA_ret ?_ | refine thenA_exit ?_ | refine thenA_normal ?_)
    simp (maxSteps := 4000000) only [go_sem, x1, x2, x5, Nat.zero_add]
end Go.Ab
namespace Go.Ab
open Go.RowKit Go.Proofs
set_option maxHeartbeats 8000000
set_option maxRecDepth 20000
attribute [local irreducible] WalkL Walk

/-! ### A net with rules -/

def pathRows (l : List Path) : List (List DV) := l.map Path.row
theorem pathRows_len (l : List Path) : (pathRows l).length = l.length := by simp [pathRows]
theorem pathRows_at {l : List Path} {i : Nat} {x : Path} (h : l[i]? = some x) : (pathRows l)[i]? = some x.row := by simp [pathRows, h]
theorem pathRows_head (l : List Path) : headIs 8 (pathRows l) = true := by cases l <;> rfl
theorem pathRows_set (l : List Path) (k : Nat) (x : Path) : (pathRows l).set k x.row = pathRows (l.set k x) := by simp [pathRows, List.map_set]
attribute [go_sem] pathRows_len pathRows_head
theorem Path.row_eq (p : Path) : p.row = [.i p.frm, .i p.to, .i p.grade, .i p.time.lo, .i p.time.hi, .i p.snow.lo, .i p.snow.hi, .sl (spanRows p.opens)] := rfl
theorem Net.cells_eq (n : Net) : n.cells = [.i n.places, .sl (pathRows n.paths)] := rfl

theorem f46 (l : List Path) (hl : l.length < 2 ^ 30) : FnS Tryz.prog 46 [.sl (pathRows l)] 56 8 (pathRows l) := by
  have h1 : l.length ≤ 549755813888 := by omega
  have h2 : 0 + l.length ≤ 549755813888 := by omega
  cases l with
  | nil =>
    have e0 : pathRows [] = [] := rfl
    have e1 : ([] : List (List DV)).isEmpty = true := rfl
    rw [e0]
    refine fnS_walk 8 Tryz.call46 Tryz.func46 rfl (by decide) fun J => ?_
    simp (maxSteps := 4000000) only [go_sem, St.start, Tryz.ntmps46, Tryz.results46]
    repeat (first | refine walkL_seq ?_ | refine walkL_skip ?_ | refine walkL_block ?_ | (refine walkL_region fun K hK => ?_; simp (maxSteps := 4000000) only [go_sem, e1]; refine hK _ ?_; clear hK K) | refine walkL_nil ?_ | refine walkL_ret ?_ | refine walkL_exit ?_ | refine blockA_here ?_ | refine blockA_other rfl ?_ | refine blockA_ret ?_ | refine blockA_normal ?_ | refine thenA_ret ?_ | refine thenA_exit ?_ | refine thenA_normal ?_)
    refine walkL_any rfl ?_ ?_
    · repeat (first | refine walkL_seq ?_ | refine walkL_skip ?_ | refine walkL_block ?_ | (refine walkL_region fun K hK => ?_; simp (maxSteps := 4000000) only [go_sem]; refine hK _ ?_; clear hK K) | refine walkL_nil ?_ | refine walkL_ret ?_ | refine walkL_exit ?_ | refine blockA_here ?_ | refine blockA_other rfl ?_ | refine blockA_ret ?_ | refine blockA_normal ?_ | refine thenA_ret ?_ | refine thenA_exit ?_ | refine thenA_normal ?_)
      simp (maxSteps := 4000000) only [go_sem]
    · repeat (first | refine walkL_seq ?_ | refine walkL_skip ?_ | refine walkL_block ?_ | (refine walkL_region fun K hK => ?_; simp (maxSteps := 4000000) only [go_sem, List.nil_append, List.length_nil]; refine hK _ ?_; clear hK K) | refine walkL_nil ?_ | refine walkL_ret ?_ | refine walkL_exit ?_ | refine blockA_here ?_ | refine blockA_other rfl ?_ | refine blockA_ret ?_ | refine blockA_normal ?_ | refine thenA_ret ?_ | refine thenA_exit ?_ | refine thenA_normal ?_)
      simp (maxSteps := 4000000) only [go_sem]
  | cons a l =>
    have hne : (pathRows (a :: l)).isEmpty = false := rfl
    obtain ⟨L, hL⟩ : ∃ L, L = a :: l := ⟨_, rfl⟩
    rw [← hL] at h1 h2 hne ⊢
    refine fnS_walk 8 Tryz.call46 Tryz.func46 rfl (by decide) fun J => ?_
    simp (maxSteps := 4000000) only [go_sem, St.start, Tryz.ntmps46, Tryz.results46]
    repeat (first | refine walkL_true rfl ?_ | refine walkL_false rfl ?_ | refine walkL_seq ?_ | refine walkL_skip ?_ | refine walkL_block ?_ | (refine walkL_region fun K hK => ?_; simp (maxSteps := 4000000) only [go_sem, hne]; refine hK _ ?_; clear hK K) | refine walkL_nil ?_ | refine walkL_ret ?_ | refine walkL_exit ?_ | refine blockA_here ?_ | refine blockA_other rfl ?_ | refine blockA_ret ?_ | refine blockA_normal ?_ | refine thenA_ret ?_ | refine thenA_exit ?_ | refine thenA_normal ?_)
    repeat (first | refine walkL_seq ?_ | refine walkL_skip ?_ | refine walkL_block ?_ | (refine walkL_region fun K hK => ?_; simp (maxSteps := 4000000) only [go_sem, h1, h2, List.nil_append, List.length_nil]; refine hK _ ?_; clear hK K) | refine walkL_nil ?_ | refine walkL_ret ?_ | refine walkL_exit ?_ | refine blockA_here ?_ | refine blockA_other rfl ?_ | refine blockA_ret ?_ | refine blockA_normal ?_ | refine thenA_ret ?_ | refine thenA_exit ?_ | refine thenA_normal ?_)
    simp (maxSteps := 4000000) only [go_sem]

def inSpans (l : List Span) (n : Int) : Bool := l.any fun s => withinB n s.lo s.hi

theorem f100 (s : Span) (n : Int) : Fn Tryz.prog 100 [.agg s.row, .ptr [.i n] 0] (.bool (withinB n s.lo s.hi)) := by
  have h := f87 n s.lo s.hi
  refine fn_walk 10 Tryz.call100 Tryz.func100 rfl (by decide) fun J => ?_
  simp (maxSteps := 4000000) only [go_sem, St.start, Tryz.ntmps100, Tryz.results100, Span.row]
  repeat (first | refine walkL_seq ?_ | refine walkL_skip ?_ | refine walkL_block ?_ | (refine walkL_region fun K hK => ?_; simp (maxSteps := 4000000) only [go_sem]; (repeat (first | (refine ⟨_, .lent (hf := h) (hd := rfl) (hr := rfl), ?_⟩; simp (maxSteps := 4000000) only [go_sem]) | (refine ⟨_, .given (hf := h) (hd := rfl) (ha := rfl), ?_⟩; simp (maxSteps := 4000000) only [go_sem]))); refine hK _ ?_; clear hK K) | refine walkL_nil ?_ | refine walkL_ret ?_ | refine walkL_exit ?_ | refine blockA_here ?_ | refine blockA_other rfl ?_ | refine blockA_ret ?_ | refine blockA_normal ?_ | refine thenA_ret ?_ | refine thenA_exit ?_ | refine thenA_normal ?_)
  simp (maxSteps := 4000000) only [go_sem]

theorem f51 (l : List Span) (n : Int) (hl : l.length < 2 ^ 30) : Fn Tryz.prog 51 [.sl (spanRows l), .i n] (.bool (inSpans l n)) := by
  have h : Fn Tryz.prog 99 [.sl (spanRows l), .fn 100 [.ptr [.i n] 0]] (.bool (inSpans l n)) := f99 l 100 [.ptr [.i n] 0] (fun s => withinB n s.lo s.hi) (fun s _ => f100 s n) (by omega)
  refine fn_walk 8 Tryz.call51 Tryz.func51 rfl (by decide) fun J => ?_
  simp (maxSteps := 4000000) only [go_sem, St.start, Tryz.ntmps51, Tryz.results51]
  repeat (first | refine walkL_seq ?_ | refine walkL_skip ?_ | refine walkL_block ?_ | (refine walkL_region fun K hK => ?_; simp (maxSteps := 4000000) only [go_sem]; (repeat (first | (refine ⟨_, .lent (hf := h) (hd := rfl) (hr := rfl), ?_⟩; simp (maxSteps := 4000000) only [go_sem]) | (refine ⟨_, .given (hf := h) (hd := rfl) (ha := rfl), ?_⟩; simp (maxSteps := 4000000) only [go_sem]))); refine hK _ ?_; clear hK K) | refine walkL_nil ?_ | refine walkL_ret ?_ | refine walkL_exit ?_ | refine blockA_here ?_ | refine blockA_other rfl ?_ | refine blockA_ret ?_ | refine blockA_normal ?_ | refine thenA_ret ?_ | refine thenA_exit ?_ | refine thenA_normal ?_)
  simp (maxSteps := 4000000) only [go_sem]

theorem f50 (opens sure : List Span) (t : Nat) (ht : t < 2 ^ 30) (ho : opens.length < 2 ^ 30) (hs : sure.length < 2 ^ 30) : Fn Tryz.prog 50 [.i t, .ptr [.sl (spanRows opens)] 0, .ptr [.sl (spanRows sure)] 0] (.bool (inSpans opens t && inSpans sure ((t / 60 : Nat) : Int))) := by
  have h1 := f51 opens t ho
  have h2 := f51 sure ((t / 60 : Nat) : Int) hs
  have w : IntKind.i64.wrap ((t : Int).tdiv 60) = ((t / 60 : Nat) : Int) := by
    rw [Int.tdiv_eq_ediv_of_nonneg (by omega), wr_small (by omega)]
    omega
  obtain ⟨a, ea⟩ : ∃ a, a = inSpans opens t := ⟨_, rfl⟩
  obtain ⟨b, eb⟩ : ∃ b, b = inSpans sure ((t / 60 : Nat) : Int) := ⟨_, rfl⟩
  rw [← ea] at h1 ⊢
  rw [← eb] at h2 ⊢
  cases a
  all_goals
    refine fn_walk 14 Tryz.call50 Tryz.func50 rfl (by decide) fun J => ?_
    simp (maxSteps := 4000000) only [go_sem, St.start, Tryz.ntmps50, Tryz.results50]
    repeat (first | refine walkL_true rfl ?_ | refine walkL_false rfl ?_ | refine walkL_seq ?_ | refine walkL_skip ?_ | refine walkL_block ?_ | (refine walkL_region fun K hK => ?_; simp (maxSteps := 4000000) only [go_sem, w]; (repeat (first | (refine ⟨_, .lent (hf := h1) (hd := rfl) (hr := rfl), ?_⟩; simp (maxSteps := 4000000) only [go_sem, w]) | (refine ⟨_, .lent (hf := h2) (hd := rfl) (hr := rfl), ?_⟩; simp (maxSteps := 4000000) only [go_sem, w]) | (refine ⟨_, .given (hf := h1) (hd := rfl) (ha := rfl), ?_⟩; simp (maxSteps := 4000000) only [go_sem, w]) | (refine ⟨_, .given (hf := h2) (hd := rfl) (ha := rfl), ?_⟩; simp (maxSteps := 4000000) only [go_sem, w]))); refine hK _ ?_; clear hK K) | refine walkL_nil ?_ | refine walkL_ret ?_ | refine walkL_exit ?_ | refine blockA_here ?_ | refine blockA_other rfl ?_ | refine blockA_ret ?_ | refine blockA_normal ?_ | refine thenA_ret ?_ | refine thenA_exit ?_ | refine thenA_normal ?_)
    simp (maxSteps := 4000000) only [go_sem]

def wrongR (m : Int) (x : Rule) : Bool := !withinB x.path 0 (m - 1) || (!withinB x.after 0 48 || !limB x.lim)
def badRules (n : Net) (l : List Rule) : Bool := decide ((l.length : Int) > 12) || l.any (wrongR n.paths.length)

theorem f88 (n : Net) (x : Rule) (hn : n.paths.length < 2 ^ 30) : Fn Tryz.prog 88 [.agg x.row, .ptr n.cells 0] (.bool (wrongR n.paths.length x)) := by
  have h1 := f87 x.path 0 ((n.paths.length : Int) - 1)
  have h2 := f87 x.after 0 48
  have h3 := f89 x.lim
  have w : IntKind.i64.wrap ((n.paths.length : Int) - 1) = (n.paths.length : Int) - 1 := wr_small (by omega)
  obtain ⟨b1, e1⟩ : ∃ b, b = withinB x.path 0 ((n.paths.length : Int) - 1) := ⟨_, rfl⟩
  obtain ⟨b2, e2⟩ : ∃ b, b = withinB x.after 0 48 := ⟨_, rfl⟩
  obtain ⟨b3, e3⟩ : ∃ b, b = limB x.lim := ⟨_, rfl⟩
  rw [wrongR, ← e1, ← e2, ← e3]
  rw [← e1] at h1
  rw [← e2] at h2
  rw [← e3] at h3
  rw [Limits.row] at h3
  cases b1 <;> cases b2
  all_goals
    refine fn_walk 25 Tryz.call88 Tryz.func88 rfl (by decide) fun J => ?_
    simp (maxSteps := 4000000) only [go_sem, St.start, Tryz.ntmps88, Tryz.results88, Rule.row, Net.cells_eq]
    repeat (first | refine walkL_true rfl ?_ | refine walkL_false rfl ?_ | refine walkL_seq ?_ | refine walkL_skip ?_ | refine walkL_block ?_ | (refine walkL_region fun K hK => ?_; simp (maxSteps := 4000000) only [go_sem, w]; (repeat (first | (refine ⟨_, .lent (hf := h1) (hd := rfl) (hr := rfl), ?_⟩; simp (maxSteps := 4000000) only [go_sem, w]) | (refine ⟨_, .lent (hf := h2) (hd := rfl) (hr := rfl), ?_⟩; simp (maxSteps := 4000000) only [go_sem, w]) | (refine ⟨_, .lent (hf := h3) (hd := rfl) (hr := rfl), ?_⟩; simp (maxSteps := 4000000) only [go_sem, w]) | (refine ⟨_, .given (hf := h1) (hd := rfl) (ha := rfl), ?_⟩; simp (maxSteps := 4000000) only [go_sem, w]) | (refine ⟨_, .given (hf := h2) (hd := rfl) (ha := rfl), ?_⟩; simp (maxSteps := 4000000) only [go_sem, w]) | (refine ⟨_, .given (hf := h3) (hd := rfl) (ha := rfl), ?_⟩; simp (maxSteps := 4000000) only [go_sem, w]))); refine hK _ ?_; clear hK K) | refine walkL_nil ?_ | refine walkL_ret ?_ | refine walkL_exit ?_ | refine blockA_here ?_ | refine blockA_other rfl ?_ | refine blockA_ret ?_ | refine blockA_normal ?_ | refine thenA_ret ?_ | refine thenA_exit ?_ | refine thenA_normal ?_)
    simp (maxSteps := 4000000) only [go_sem]

/-- The error of a net, rules, a forecast and sights, and a number that is that of a path or -1. -/
def ruledE (n : Net) (rules : List Rule) (F : List (List Hour)) (seen : List Sight) (p : Int) : Int :=
  if foreF F ≠ 0 then foreF F else if checkF n ≠ 0 then checkF n else lookF F seen (if badRules n rules then 53 else 0) (withinB p (-1) ((n.paths.length : Int) - 1))

theorem f40 (n : Net) (rules : List Rule) (F : List (List Hour)) (seen : List Sight) (p : Int) (hn : n.Small) (hr : rules.length < 2 ^ 30) (hs : ForeSmall F) (hsl : seen.length < 2 ^ 30) :
    Fn Tryz.prog 40 [.agg n.cells, .sl (ruleRows rules), .agg [.sl (scenRows F)], .sl (sightRows seen), .i p]
      (.tup [if ruledE n rules F seen p = 0 then .ptr [lookV F seen, .sl (ruleRows (ofPath rules p))] 0 else .nilptr, .i (ruledE n rules F seen p)]) := by
  have h23 := f85 F hs
  have h90 := f86 n hn
  have hnp := hn.paths
  have w : IntKind.i64.wrap ((n.paths.length : Int) - 1) = (n.paths.length : Int) - 1 := wr_small (by omega)
  rw [Net.cells_eq] at h90
  obtain ⟨fe, hfe⟩ : ∃ e, e = foreF F := ⟨_, rfl⟩
  obtain ⟨ce, hce⟩ : ∃ e, e = checkF n := ⟨_, rfl⟩
  obtain ⟨E, hE⟩ : ∃ E, E = ruledE n rules F seen p := ⟨_, rfl⟩
  rw [← hE]
  rw [← hfe] at h23
  rw [← hce] at h90
  by_cases q1 : fe = 0
  · by_cases q2 : ce = 0
    · have hE2 : E = lookF F seen (if badRules n rules then 53 else 0) (withinB p (-1) ((n.paths.length : Int) - 1)) := by
        rw [hE]; unfold ruledE; rw [← hfe, ← hce, if_neg (fun h => h q1), if_neg (fun h => h q2)]
      have b1 : (fe != 0) = false := by simp [q1]
      have b2 : (ce != 0) = false := by simp [q2]
      have h52 := f87 p (-1) ((n.paths.length : Int) - 1)
      have h92 : Fn Tryz.prog 90 [.sl (ruleRows rules), .fn 88 [.ptr n.cells 0]] (.bool (rules.any (wrongR n.paths.length))) := f90 rules 88 [.ptr n.cells 0] (wrongR n.paths.length) (fun x _ => f88 n x hnp) (by omega)
      have h65 := f47 [.sl (intRows (numsOf (possL F seen))), .sl (scenRows (scensOf (possL F seen))), .i (hd0 F).length] rules p hr
      have h39 := f59 F seen (if badRules n rules then 53 else 0) (withinB p (-1) ((n.paths.length : Int) - 1)) hs hsl
      rw [← hE2] at h39
      obtain ⟨t, ht⟩ : ∃ t, t = withinB p (-1) ((n.paths.length : Int) - 1) := ⟨_, rfl⟩
      rw [← ht] at h52 h39
      obtain ⟨a, ha⟩ : ∃ a, a = rules.any (wrongR n.paths.length) := ⟨_, rfl⟩
      rw [← ha] at h92
      have hbad : badRules n rules = (decide ((rules.length : Int) > 12) || a) := by rw [ha]; rfl
      rw [hbad] at h39
      rw [Net.cells_eq] at h92
      obtain ⟨R, hR⟩ : ∃ R, R = ofPath rules p := ⟨_, rfl⟩
      rw [← hR] at h65 ⊢
      clear hE hE2
      cases q3 : decide ((rules.length : Int) > 12) <;> cases a
      all_goals
        rw [q3] at h39
        simp only [Bool.false_or, Bool.true_or, Bool.or_false, Bool.or_true, Bool.false_eq_true, if_false, if_true] at h39
        by_cases q4 : E = 0
        · have b4 : (E != 0) = false := by simp [q4]
          rw [if_pos q4] at h39 ⊢
          rw [lookV] at h39 ⊢
          refine fn_walk 61 Tryz.call40 Tryz.func40 rfl (by decide) fun J => ?_
          simp (maxSteps := 4000000) only [go_sem, St.start, Tryz.ntmps40, Tryz.results40, Net.cells_eq]
          repeat (first | refine walkL_true rfl ?_ | refine walkL_false rfl ?_ | refine walkL_seq ?_ | refine walkL_skip ?_ | refine walkL_block ?_ | (refine walkL_region fun K hK => ?_; simp (maxSteps := 4000000) only [go_sem, b1, b2, b4, w, q3]; (repeat (first | (refine ⟨_, .lent (hf := h23) (hd := rfl) (hr := rfl), ?_⟩; simp (maxSteps := 4000000) only [go_sem, b1, b2, b4, w, q3]) | (refine ⟨_, .lent (hf := h90) (hd := rfl) (hr := rfl), ?_⟩; simp (maxSteps := 4000000) only [go_sem, b1, b2, b4, w, q3]) | (refine ⟨_, .lent (hf := h52) (hd := rfl) (hr := rfl), ?_⟩; simp (maxSteps := 4000000) only [go_sem, b1, b2, b4, w, q3]) | (refine ⟨_, .lent (hf := h92) (hd := rfl) (hr := rfl), ?_⟩; simp (maxSteps := 4000000) only [go_sem, b1, b2, b4, w, q3]) | (refine ⟨_, .lent (hf := h39) (hd := rfl) (hr := rfl), ?_⟩; simp (maxSteps := 4000000) only [go_sem, b1, b2, b4, w, q3]) | (refine ⟨_, .lent (hf := h65) (hd := rfl) (hr := rfl), ?_⟩; simp (maxSteps := 4000000) only [go_sem, b1, b2, b4, w, q3]) | (refine ⟨_, .given (hf := h23) (hd := rfl) (ha := rfl), ?_⟩; simp (maxSteps := 4000000) only [go_sem, b1, b2, b4, w, q3]) | (refine ⟨_, .given (hf := h90) (hd := rfl) (ha := rfl), ?_⟩; simp (maxSteps := 4000000) only [go_sem, b1, b2, b4, w, q3]) | (refine ⟨_, .given (hf := h52) (hd := rfl) (ha := rfl), ?_⟩; simp (maxSteps := 4000000) only [go_sem, b1, b2, b4, w, q3]) | (refine ⟨_, .given (hf := h92) (hd := rfl) (ha := rfl), ?_⟩; simp (maxSteps := 4000000) only [go_sem, b1, b2, b4, w, q3]) | (refine ⟨_, .given (hf := h39) (hd := rfl) (ha := rfl), ?_⟩; simp (maxSteps := 4000000) only [go_sem, b1, b2, b4, w, q3]) | (refine ⟨_, .given (hf := h65) (hd := rfl) (ha := rfl), ?_⟩; simp (maxSteps := 4000000) only [go_sem, b1, b2, b4, w, q3]))); refine hK _ ?_; clear hK K) | refine walkL_nil ?_ | refine walkL_ret ?_ | refine walkL_exit ?_ | refine blockA_here ?_ | refine blockA_other rfl ?_ | refine blockA_ret ?_ | refine blockA_normal ?_ | refine thenA_ret ?_ | refine thenA_exit ?_ | refine thenA_normal ?_)
          simp (maxSteps := 4000000) only [go_sem, q4]
        · have b4 : (E != 0) = true := by simpa using q4
          rw [if_neg q4] at h39 ⊢
          refine fn_walk 61 Tryz.call40 Tryz.func40 rfl (by decide) fun J => ?_
          simp (maxSteps := 4000000) only [go_sem, St.start, Tryz.ntmps40, Tryz.results40, Net.cells_eq]
          repeat (first | refine walkL_true rfl ?_ | refine walkL_false rfl ?_ | refine walkL_seq ?_ | refine walkL_skip ?_ | refine walkL_block ?_ | (refine walkL_region fun K hK => ?_; simp (maxSteps := 4000000) only [go_sem, b1, b2, b4, w, q3]; (repeat (first | (refine ⟨_, .lent (hf := h23) (hd := rfl) (hr := rfl), ?_⟩; simp (maxSteps := 4000000) only [go_sem, b1, b2, b4, w, q3]) | (refine ⟨_, .lent (hf := h90) (hd := rfl) (hr := rfl), ?_⟩; simp (maxSteps := 4000000) only [go_sem, b1, b2, b4, w, q3]) | (refine ⟨_, .lent (hf := h52) (hd := rfl) (hr := rfl), ?_⟩; simp (maxSteps := 4000000) only [go_sem, b1, b2, b4, w, q3]) | (refine ⟨_, .lent (hf := h92) (hd := rfl) (hr := rfl), ?_⟩; simp (maxSteps := 4000000) only [go_sem, b1, b2, b4, w, q3]) | (refine ⟨_, .lent (hf := h39) (hd := rfl) (hr := rfl), ?_⟩; simp (maxSteps := 4000000) only [go_sem, b1, b2, b4, w, q3]) | (refine ⟨_, .given (hf := h23) (hd := rfl) (ha := rfl), ?_⟩; simp (maxSteps := 4000000) only [go_sem, b1, b2, b4, w, q3]) | (refine ⟨_, .given (hf := h90) (hd := rfl) (ha := rfl), ?_⟩; simp (maxSteps := 4000000) only [go_sem, b1, b2, b4, w, q3]) | (refine ⟨_, .given (hf := h52) (hd := rfl) (ha := rfl), ?_⟩; simp (maxSteps := 4000000) only [go_sem, b1, b2, b4, w, q3]) | (refine ⟨_, .given (hf := h92) (hd := rfl) (ha := rfl), ?_⟩; simp (maxSteps := 4000000) only [go_sem, b1, b2, b4, w, q3]) | (refine ⟨_, .given (hf := h39) (hd := rfl) (ha := rfl), ?_⟩; simp (maxSteps := 4000000) only [go_sem, b1, b2, b4, w, q3]))); refine hK _ ?_; clear hK K) | refine walkL_nil ?_ | refine walkL_ret ?_ | refine walkL_exit ?_ | refine blockA_here ?_ | refine blockA_other rfl ?_ | refine blockA_ret ?_ | refine blockA_normal ?_ | refine thenA_ret ?_ | refine thenA_exit ?_ | refine thenA_normal ?_)
          simp (maxSteps := 4000000) only [go_sem]
    · have hE2 : E = ce := by
        rw [hE]; unfold ruledE; rw [← hfe, ← hce, if_neg (fun h => h q1), if_pos q2]
      rw [hE2, if_neg q2]
      have b1 : (fe != 0) = false := by simp [q1]
      have b2 : (ce != 0) = true := by simpa using q2
      refine fn_walk 61 Tryz.call40 Tryz.func40 rfl (by decide) fun J => ?_
      simp (maxSteps := 4000000) only [go_sem, St.start, Tryz.ntmps40, Tryz.results40, Net.cells_eq]
      repeat (first | refine walkL_true rfl ?_ | refine walkL_false rfl ?_ | refine walkL_seq ?_ | refine walkL_skip ?_ | refine walkL_block ?_ | (refine walkL_region fun K hK => ?_; simp (maxSteps := 4000000) only [go_sem, b1, b2]; (repeat (first | (refine ⟨_, .lent (hf := h23) (hd := rfl) (hr := rfl), ?_⟩; simp (maxSteps := 4000000) only [go_sem, b1, b2]) | (refine ⟨_, .lent (hf := h90) (hd := rfl) (hr := rfl), ?_⟩; simp (maxSteps := 4000000) only [go_sem, b1, b2]) | (refine ⟨_, .given (hf := h23) (hd := rfl) (ha := rfl), ?_⟩; simp (maxSteps := 4000000) only [go_sem, b1, b2]) | (refine ⟨_, .given (hf := h90) (hd := rfl) (ha := rfl), ?_⟩; simp (maxSteps := 4000000) only [go_sem, b1, b2]))); refine hK _ ?_; clear hK K) | refine walkL_nil ?_ | refine walkL_ret ?_ | refine walkL_exit ?_ | refine blockA_here ?_ | refine blockA_other rfl ?_ | refine blockA_ret ?_ | refine blockA_normal ?_ | refine thenA_ret ?_ | refine thenA_exit ?_ | refine thenA_normal ?_)
      simp (maxSteps := 4000000) only [go_sem]
  · have hE2 : E = fe := by
      rw [hE]; unfold ruledE; rw [← hfe, if_pos q1]
    rw [hE2, if_neg q1]
    have b1 : (fe != 0) = true := by simpa using q1
    refine fn_walk 61 Tryz.call40 Tryz.func40 rfl (by decide) fun J => ?_
    simp (maxSteps := 4000000) only [go_sem, St.start, Tryz.ntmps40, Tryz.results40, Net.cells_eq]
    repeat (first | refine walkL_true rfl ?_ | refine walkL_false rfl ?_ | refine walkL_seq ?_ | refine walkL_skip ?_ | refine walkL_block ?_ | (refine walkL_region fun K hK => ?_; simp (maxSteps := 4000000) only [go_sem, b1]; (repeat (first | (refine ⟨_, .lent (hf := h23) (hd := rfl) (hr := rfl), ?_⟩; simp (maxSteps := 4000000) only [go_sem, b1]) | (refine ⟨_, .given (hf := h23) (hd := rfl) (ha := rfl), ?_⟩; simp (maxSteps := 4000000) only [go_sem, b1]))); refine hK _ ?_; clear hK K) | refine walkL_nil ?_ | refine walkL_ret ?_ | refine walkL_exit ?_ | refine blockA_here ?_ | refine blockA_other rfl ?_ | refine blockA_ret ?_ | refine blockA_normal ?_ | refine thenA_ret ?_ | refine thenA_exit ?_ | refine thenA_normal ?_)
    simp (maxSteps := 4000000) only [go_sem]
end Go.Ab
namespace Go.Ab
open Go.RowKit Go.Proofs
set_option maxHeartbeats 16000000
set_option maxRecDepth 20000
attribute [local irreducible] WalkL Walk

/-! ### Safe -/

def updI {α : Type} (f : Nat → α → α) (l : List α) (k : Nat) : List α := (l.take k).mapIdx f ++ l.drop k
theorem updI_len {α : Type} (f : Nat → α → α) (l : List α) (k : Nat) : (updI f l k).length = l.length := by simp [updI]; omega
theorem updI_zero {α : Type} (f : Nat → α → α) (l : List α) : updI f l 0 = l := by simp [updI]
theorem updI_all {α : Type} (f : Nat → α → α) (l : List α) : updI f l l.length = l.mapIdx f := by simp [updI]
theorem updI_get {α : Type} (f : Nat → α → α) {l : List α} {k : Nat} {x : α} (h : l[k]? = some x) : (updI f l k)[k]? = some x := by
  have hk := (List.getElem?_eq_some_iff.1 h).1
  have h1 : ((l.take k).mapIdx f).length = k := by simp; omega
  unfold updI
  rw [List.getElem?_append_right (by omega), h1, Nat.sub_self, drop_get h]
  rfl
theorem updI_set {α : Type} (f : Nat → α → α) {l : List α} {k : Nat} {x : α} (h : l[k]? = some x) : (updI f l k).set k (f k x) = updI f l (k + 1) := by
  have hk := (List.getElem?_eq_some_iff.1 h).1
  have h1 : ((l.take k).mapIdx f).length = k := by simp; omega
  have h2 : (l.take k).length = k := by simp; omega
  unfold updI
  rw [List.set_append_right _ _ (by omega), h1, Nat.sub_self, drop_get h, List.set_cons_zero, List.take_add_one, h, Option.toList_some, List.mapIdx_append, h2]
  simp

def safeOpens (opens sure : List Span) : List Span := (spansQ (fun t => inSpans opens t && inSpans sure ((t / 60 : Nat) : Int)) 2881).take 6
def safeP (rules : List Rule) (S : List (List Hour)) (H : Nat) (i : Nat) (p : Path) : Path :=
  if ((ofPath rules i).length : Int) == 0 then p else { p with opens := safeOpens p.opens (openS (ofPath rules i) S H) }
def safeF (n : Net) (rules : List Rule) (F : List (List Hour)) (seen : List Sight) : Net × Int :=
  if ruledE n rules F seen (-1) = 0 then (⟨n.places, n.paths.mapIdx (safeP rules (scensOf (possL F seen)) (hd0 F).length)⟩, 0) else (⟨0, []⟩, ruledE n rules F seen (-1))

theorem ruled_all {n : Net} {rules : List Rule} {F : List (List Hour)} {seen : List Sight} {p : Int} (h : ruledE n rules F seen p = 0) :
    ForeGood F ∧ sightsB (hd0 F).length seen = true ∧ possL F seen ≠ [] ∧ badNet n = false ∧ badRules n rules = false ∧ withinB p (-1) ((n.paths.length : Int) - 1) = true := by
  unfold ruledE at h
  split at h
  · rename_i h1; exact absurd h h1
  · split at h
    · rename_i h1; exact absurd h h1
    · rename_i h2
      obtain ⟨a, b, c, d, e⟩ := look_all h
      refine ⟨a, b, c, ?_, ?_, e⟩
      · cases hb : badNet n with
        | false => rfl
        | true => simp [checkF, hb] at h2
      · cases hb : badRules n rules with
        | false => rfl
        | true => rw [hb, if_pos rfl] at d; cases d

theorem rules_ok {n : Net} {rules : List Rule} (h : badRules n rules = false) : rules.length ≤ 12 ∧ ∀ x ∈ rules, (0 ≤ x.path ∧ x.path ≤ (n.paths.length : Int) - 1) ∧ (0 ≤ x.after ∧ x.after ≤ 48) ∧ limB x.lim = true := by
  unfold badRules at h
  simp only [Bool.or_eq_false_iff, decide_eq_false_iff_not] at h
  refine ⟨by have := h.1; omega, fun x hx => ?_⟩
  have h2 := h.2
  rw [List.any_eq_false] at h2
  have := h2 x hx
  unfold wrongR at this
  simp only [Bool.or_eq_true, Bool.not_eq_true', not_or, Bool.not_eq_false] at this
  exact ⟨within_iff.1 this.1, within_iff.1 this.2.1, this.2.2⟩

theorem ofPath_sub {rules : List Rule} {p : Int} : ∀ x ∈ ofPath rules p, x ∈ rules := fun x hx => (List.mem_filter.1 hx).1
theorem ofPath_len {rules : List Rule} {p : Int} : (ofPath rules p).length ≤ rules.length := List.length_filter_le _ _

theorem f15 (n : Net) (rules : List Rule) (F : List (List Hour)) (seen : List Sight) (hn : n.Small) (hr : rules.length < 2 ^ 30) (hs : ForeSmall F) (hsl : seen.length < 2 ^ 30) :
    Fn Tryz.prog 15 [.agg n.cells, .sl (ruleRows rules), .agg [.sl (scenRows F)], .sl (sightRows seen)] (.tup [.agg (safeF n rules F seen).1.cells, .i (safeF n rules F seen).2]) := by
  have h63 := f40 n rules F seen (-1) hn hr hs hsl
  unfold safeF
  by_cases h0 : ruledE n rules F seen (-1) = 0
  · obtain ⟨hg, hsi, hne, hbn, hbr, _⟩ := ruled_all h0
    obtain ⟨hrl, hro⟩ := rules_ok hbr
    rw [if_pos h0]
    rw [if_pos h0, h0, lookV_out] at h63
    have hall := scens_all (seen := seen) hg
    have hSl := scens_short (F := F) (seen := seen)
    have hH := hg.hours
    have hF := hg.scen
    have hpl := hn.paths
    obtain ⟨N, hN⟩ : ∃ N, N = numsOf (possL F seen) := ⟨_, rfl⟩
    obtain ⟨S, hS⟩ : ∃ S, S = scensOf (possL F seen) := ⟨_, rfl⟩
    obtain ⟨H, hHe⟩ : ∃ H, H = (hd0 F).length := ⟨_, rfl⟩
    rw [← hN, ← hS, ← hHe] at h63
    rw [← hS, ← hHe]
    rw [← hS] at hall hSl
    rw [← hHe] at hall hH
    have h64 := f46 n.paths hpl
    have h65 := fun p => f47 [.sl (intRows N), .sl (scenRows S), .i H] rules p hr
    have h67 := fun p => f41 N S H (ofPath rules p) (fun x hx => (hro x (ofPath_sub x hx)).2.1) hall (by omega) (by omega) (by have := ofPath_len (rules := rules) (p := p); omega)
    rw [outV] at h63
    simp only [outV] at h67
    rw [Net.cells_eq] at h63
    obtain ⟨f, hf⟩ : ∃ f, f = safeP rules S H := ⟨_, rfl⟩
    rw [← hf, Net.cells_eq]
    refine fn_walk 100 Tryz.call15 Tryz.func15 rfl (by decide) fun J => ?_
    simp (maxSteps := 4000000) only [go_sem, St.start, Tryz.ntmps15, Tryz.results15, Net.cells_eq]
    repeat (first | refine walkL_true rfl ?_ | refine walkL_false rfl ?_ | refine walkL_seq ?_ | refine walkL_skip ?_ | refine walkL_block ?_ | (refine walkL_region fun K hK => ?_; simp (maxSteps := 4000000) only [go_sem]; (repeat (first | (refine ⟨_, .lent (hf := h63) (hd := rfl) (hr := rfl), ?_⟩; simp (maxSteps := 4000000) only [go_sem]) | (refine ⟨_, .given (hf := h63) (hd := rfl) (ha := rfl), ?_⟩; simp (maxSteps := 4000000) only [go_sem]))); refine hK _ ?_; clear hK K) | refine walkL_nil ?_ | refine walkL_ret ?_ | refine walkL_exit ?_ | refine blockA_here ?_ | refine blockA_other rfl ?_ | refine blockA_ret ?_ | refine blockA_normal ?_ | refine thenA_ret ?_ | refine thenA_exit ?_ | refine thenA_normal ?_)
    refine walkL_drawn (by kernel_rfl) (by kernel_rfl) fun K hK => ?_
    simp (maxSteps := 4000000) only [go_sem]
    refine ⟨_, .fnS (hdst := rfl) (hf := h64) (hd := rfl) (hr := .inr rfl) (hfr := rfl), ?_⟩
    simp (maxSteps := 4000000) only [go_sem]
    refine ⟨by kernel_rfl, hK _ ?_⟩
    clear hK K
    repeat (first | refine walkL_true rfl ?_ | refine walkL_false rfl ?_ | refine walkL_seq ?_ | refine walkL_skip ?_ | refine walkL_block ?_ | (refine walkL_region fun K hK => ?_; simp (maxSteps := 4000000) only [go_sem]; refine hK _ ?_; clear hK K) | refine walkL_nil ?_ | refine walkL_ret ?_ | refine walkL_exit ?_ | refine blockA_here ?_ | refine blockA_other rfl ?_ | refine blockA_ret ?_ | refine blockA_normal ?_ | refine thenA_ret ?_ | refine thenA_exit ?_ | refine thenA_normal ?_)
    refine walkL_release [13] ?_
    simp (maxSteps := 4000000) only [go_sem]
    refine walkL_loopS (fun (i : Nat) => [(47, .d (.i i))]) (fun i => [(36, some (.arr 56 8 (pathRows (updI f n.paths i))))]) (fun i => i ≤ n.paths.length) (fun i => n.paths.length - i) 0 ?_ (Nat.zero_le _) ?_
    · simp (maxSteps := 4000000) only [go_sem, updI_zero]
      refine weak_of [] ?_ ?_ rfl rfl <;> simp [lessT, lessM, lessB, AV.less]
      all_goals first | done | rfl | exact ⟨rfl, rfl⟩ | rw [updI_zero]
    · intro i hi
      simp (maxSteps := 4000000) only [go_sem]
      repeat (first | refine walkL_seq ?_ | refine walkL_skip ?_ | refine walkL_block ?_ | (refine walkL_region fun K hK => ?_; simp (maxSteps := 4000000) only [go_sem]; refine hK _ ?_; clear hK K) | refine walkL_nil ?_ | refine walkL_ret ?_ | refine walkL_exit ?_ | refine blockA_here ?_ | refine blockA_other rfl ?_ | refine blockA_ret ?_ | refine blockA_normal ?_ | refine thenA_ret ?_ | refine thenA_exit ?_ | refine thenA_normal ?_)
      refine walkL_cond rfl (fun hb => ?_) (fun hb => ?_)
      · have hlt : i < n.paths.length := by simpa using hb
        have hw : IntKind.i64.wrap ((i : Int) + 1) = ((i + 1 : Nat) : Int) := by rw [wr_small (by omega)]; simp
        obtain ⟨x, hx⟩ : ∃ x, n.paths[i]? = some x := ⟨_, List.getElem?_eq_getElem hlt⟩
        have hxo := hn.opens x (List.mem_of_getElem? hx)
        have e1 := updI_set f hx
        have hLg := updI_get f hx
        have hLl := updI_len f n.paths i
        obtain ⟨L, hL⟩ : ∃ L, L = updI f n.paths i := ⟨_, rfl⟩
        rw [← hL] at e1 hLg hLl ⊢
        have hiL : i < L.length := by omega
        have g1 := pathRows_at hLg
        rw [Path.row_eq] at g1
        have c65 := h65 i
        have c67 := h67 i
        have hfx : f i x = safeP rules S H i x := by rw [hf]
        unfold safeP at hfx
        obtain ⟨R, hR⟩ : ∃ R, R = ofPath rules i := ⟨_, rfl⟩
        rw [← hR] at c65 c67 hfx
        cases q : ((R.length : Int) == 0)
        · rw [q] at hfx
          simp only [Bool.false_eq_true, if_false] at hfx
          obtain ⟨A, hA⟩ : ∃ A, A = openS R S H := ⟨_, rfl⟩
          rw [← hA] at c67 hfx
          have hAl : A.length < 2 ^ 30 := by
            have := spansQ_len (fun i => S.all fun s => keepsB alwaysB R s i) H
            rw [hA]
            unfold openS
            omega
          have c68 := f49 2881 50 [.ptr [.sl (spanRows x.opens)] 0, .ptr [.sl (spanRows A)] 0] (fun t => inSpans x.opens t && inSpans A ((t / 60 : Nat) : Int)) (fun t ht => f50 x.opens A t (by omega) hxo hAl) (by decide)
          unfold safeOpens at hfx
          obtain ⟨X, hX⟩ : ∃ X, X = spansQ (fun t => inSpans x.opens t && inSpans A ((t / 60 : Nat) : Int)) 2881 := ⟨_, rfl⟩
          rw [← hX] at c68 hfx
          have e2 : (pathRows L).set i [.i x.frm, .i x.to, .i x.grade, .i x.time.lo, .i x.time.hi, .i x.snow.lo, .i x.snow.hi, .sl (spanRows X)] = pathRows (L.set i { x with opens := X }) := pathRows_set L i { x with opens := X }
          have g2 : (pathRows (L.set i { x with opens := X }))[i]? = some [.i x.frm, .i x.to, .i x.grade, .i x.time.lo, .i x.time.hi, .i x.snow.lo, .i x.snow.hi, .sl (spanRows X)] := pathRows_at (x := { x with opens := X }) (List.getElem?_set_self hiL)
          have e3 : (pathRows (L.set i { x with opens := X })).set i [.i x.frm, .i x.to, .i x.grade, .i x.time.lo, .i x.time.hi, .i x.snow.lo, .i x.snow.hi, .sl (spanRows (X.take 6))] = pathRows (updI f n.paths (i + 1)) := by
            rw [← e1, hfx]
            have := pathRows_set (L.set i { x with opens := X }) i { x with opens := X.take 6 }
            rw [List.set_set] at this
            exact this
          have hL2 : (L.set i { x with opens := X }).length = L.length := by simp
          obtain ⟨L2, hL2e⟩ : ∃ L2, L2 = L.set i { x with opens := X } := ⟨_, rfl⟩
          rw [← hL2e] at e2 g2 e3 hL2
          have hiL2 : i < L2.length := by omega
          repeat (first | refine walkL_true rfl ?_ | refine walkL_false rfl ?_ | refine walkL_seq ?_ | refine walkL_skip ?_ | refine walkL_block ?_ | (refine walkL_region fun K hK => ?_; simp (maxSteps := 4000000) only [go_sem, g1, hiL, q]; (repeat (first | (refine ⟨_, .lent (hf := c65) (hd := rfl) (hr := rfl), ?_⟩; simp (maxSteps := 4000000) only [go_sem, g1, hiL, q]) | (refine ⟨_, .lent (hf := c67) (hd := rfl) (hr := rfl), ?_⟩; simp (maxSteps := 4000000) only [go_sem, g1, hiL, q]) | (refine ⟨_, .given (hf := c65) (hd := rfl) (ha := rfl), ?_⟩; simp (maxSteps := 4000000) only [go_sem, g1, hiL, q]) | (refine ⟨_, .given (hf := c67) (hd := rfl) (ha := rfl), ?_⟩; simp (maxSteps := 4000000) only [go_sem, g1, hiL, q]))); refine hK _ ?_; clear hK K) | refine walkL_nil ?_ | refine walkL_ret ?_ | refine walkL_exit ?_ | refine blockA_here ?_ | refine blockA_other rfl ?_ | refine blockA_ret ?_ | refine blockA_normal ?_ | refine thenA_ret ?_ | refine thenA_exit ?_ | refine thenA_normal ?_)
          refine walkL_region fun K hK => ?_
          simp (maxSteps := 4000000) only [go_sem, g1, hiL]
          refine ⟨_, .lentS (hdst := rfl) (hf := c68) (hd := rfl) (hr := by first | exact rowsFlat_int _ | exact rowsFlat_hour _ | exact rowsFlat_sight _ | exact rowsFlat_sky _ | exact rowsFlat_span _ | exact rowsFlat_bool _) (hfr := rfl), ?_⟩
          simp (maxSteps := 4000000) only [go_sem, g1, hiL, e2]
          refine hK _ ?_
          clear hK K
          have m1 : (0 : Int) ≤ min (X.length : Int) 6 := by omega
          have m2 : min (X.length : Int) 6 ≤ (X.length : Int) := by omega
          have m3 : (0 : Int) ≤ min (X.length : Int) 6 ∧ min (X.length : Int) 6 ≤ (X.length : Int) := ⟨m1, m2⟩
          have e6 : List.take (min (X.length : Int) 6).toNat (spanRows X) = spanRows (X.take 6) := by
            have : (min (X.length : Int) 6).toNat = min X.length 6 := by omega
            rw [this]
            unfold spanRows
            by_cases h6 : 6 ≤ X.length
            · rw [Nat.min_eq_right h6, List.map_take]
            · rw [Nat.min_eq_left (by omega), List.take_of_length_le (by simp), List.take_of_length_le (by omega)]
          have e7 : List.take ((min (X.length : Int) 6).toNat - 0) (List.drop 0 (spanRows X)) = spanRows (X.take 6) := by simpa using e6
          repeat (first | refine walkL_true rfl ?_ | refine walkL_false rfl ?_ | refine walkL_seq ?_ | refine walkL_skip ?_ | refine walkL_block ?_ | (refine walkL_region fun K hK => ?_; simp (maxSteps := 4000000) only [go_sem, g2, hiL2, hiL, m1, m2, m3, e6, e7, e3, hw, hL2]; refine hK _ ?_; clear hK K) | (refine walkL_drawn (by kernel_rfl) (by kernel_rfl) fun K hK => ?_; simp (maxSteps := 4000000) only [go_sem, g2, hiL2, hiL, m1, m2, m3, e6, e7, e3, hw, hL2]; refine ⟨by kernel_rfl, hK _ ?_⟩; clear hK K) | refine walkL_nil ?_ | refine walkL_ret ?_ | refine walkL_exit ?_ | refine blockA_here ?_ | refine blockA_other rfl ?_ | refine blockA_ret ?_ | refine blockA_normal ?_ | refine thenA_ret ?_ | refine thenA_exit ?_ | refine thenA_normal ?_)
          refine ⟨rfl, i + 1, ?_, hlt, by omega⟩
          refine weak_of [] ?_ ?_ rfl rfl <;> simp [lessT, lessM, lessB, AV.less]
          all_goals first | done | rfl | exact ⟨rfl, rfl⟩ | (rw [e6, e3])
        · rw [q] at hfx
          simp only [if_true] at hfx
          have c66 := f48 x.opens hxo
          have e2 : (pathRows L).set i [.i x.frm, .i x.to, .i x.grade, .i x.time.lo, .i x.time.hi, .i x.snow.lo, .i x.snow.hi, .sl (spanRows x.opens)] = pathRows (updI f n.paths (i + 1)) := by
            rw [← e1, hfx]
            exact pathRows_set L i x
          repeat (first | refine walkL_true rfl ?_ | refine walkL_false rfl ?_ | refine walkL_seq ?_ | refine walkL_skip ?_ | refine walkL_block ?_ | (refine walkL_region fun K hK => ?_; simp (maxSteps := 4000000) only [go_sem, g1, hiL, q]; (repeat (first | (refine ⟨_, .lent (hf := c65) (hd := rfl) (hr := rfl), ?_⟩; simp (maxSteps := 4000000) only [go_sem, g1, hiL, q]) | (refine ⟨_, .given (hf := c65) (hd := rfl) (ha := rfl), ?_⟩; simp (maxSteps := 4000000) only [go_sem, g1, hiL, q]))); refine hK _ ?_; clear hK K) | refine walkL_nil ?_ | refine walkL_ret ?_ | refine walkL_exit ?_ | refine blockA_here ?_ | refine blockA_other rfl ?_ | refine blockA_ret ?_ | refine blockA_normal ?_ | refine thenA_ret ?_ | refine thenA_exit ?_ | refine thenA_normal ?_)
          refine walkL_region fun K hK => ?_
          simp (maxSteps := 4000000) only [go_sem, g1, hiL]
          refine ⟨_, .lentS (hdst := rfl) (hf := c66) (hd := rfl) (hr := by first | exact rowsFlat_int _ | exact rowsFlat_hour _ | exact rowsFlat_sight _ | exact rowsFlat_sky _ | exact rowsFlat_span _ | exact rowsFlat_bool _) (hfr := rfl), ?_⟩
          simp (maxSteps := 4000000) only [go_sem, g1, hiL, e2]
          refine hK _ ?_
          clear hK K
          repeat (first | refine walkL_true rfl ?_ | refine walkL_false rfl ?_ | refine walkL_seq ?_ | refine walkL_skip ?_ | refine walkL_block ?_ | (refine walkL_region fun K hK => ?_; simp (maxSteps := 4000000) only [go_sem, hw]; refine hK _ ?_; clear hK K) | refine walkL_nil ?_ | refine walkL_ret ?_ | refine walkL_exit ?_ | refine blockA_here ?_ | refine blockA_other rfl ?_ | refine blockA_ret ?_ | refine blockA_normal ?_ | refine thenA_ret ?_ | refine thenA_exit ?_ | refine thenA_normal ?_)
          refine ⟨rfl, i + 1, ?_, hlt, by omega⟩
          refine weak_of [] ?_ ?_ rfl rfl <;> simp [lessT, lessM, lessB, AV.less]
          all_goals first | done | rfl | exact ⟨rfl, rfl⟩
      · have he : i = n.paths.length := by (have : ¬ i < n.paths.length := by simpa using hb); omega
        subst he
        rw [updI_all]
        repeat (first | refine walkL_seq ?_ | refine walkL_skip ?_ | refine walkL_block ?_ | (refine walkL_region fun K hK => ?_; simp (maxSteps := 4000000) only [go_sem]; refine hK _ ?_; clear hK K) | refine walkL_nil ?_ | refine walkL_ret ?_ | refine walkL_exit ?_ | refine blockA_here ?_ | refine blockA_other rfl ?_ | refine blockA_ret ?_ | refine blockA_normal ?_ | refine thenA_ret ?_ | refine thenA_exit ?_ | refine thenA_normal ?_)
        simp (maxSteps := 4000000) only [go_sem]
  · rw [if_neg h0]
    rw [if_neg h0] at h63
    have b0 : (ruledE n rules F seen (-1) != 0) = true := by simpa using h0
    obtain ⟨e, he⟩ : ∃ e, e = ruledE n rules F seen (-1) := ⟨_, rfl⟩
    rw [← he] at h63 b0 ⊢
    rw [Net.cells_eq] at h63
    have e0 : pathRows [] = [] := rfl
    refine fn_walk 100 Tryz.call15 Tryz.func15 rfl (by decide) fun J => ?_
    simp (maxSteps := 4000000) only [go_sem, St.start, Tryz.ntmps15, Tryz.results15, Net.cells_eq]
    repeat (first | refine walkL_true rfl ?_ | refine walkL_false rfl ?_ | refine walkL_seq ?_ | refine walkL_skip ?_ | refine walkL_block ?_ | (refine walkL_region fun K hK => ?_; simp (maxSteps := 4000000) only [go_sem, b0]; (repeat (first | (refine ⟨_, .lent (hf := h63) (hd := rfl) (hr := rfl), ?_⟩; simp (maxSteps := 4000000) only [go_sem, b0]) | (refine ⟨_, .given (hf := h63) (hd := rfl) (ha := rfl), ?_⟩; simp (maxSteps := 4000000) only [go_sem, b0]))); refine hK _ ?_; clear hK K) | refine walkL_nil ?_ | refine walkL_ret ?_ | refine walkL_exit ?_ | refine blockA_here ?_ | refine blockA_other rfl ?_ | refine blockA_ret ?_ | refine blockA_normal ?_ | refine thenA_ret ?_ | refine thenA_exit ?_ | refine thenA_normal ?_)
    simp (maxSteps := 4000000) only [go_sem, Net.cells_eq, e0]
    try rfl
end Go.Ab
namespace Go.Ab
open Go.RowKit Go.Proofs
set_option maxHeartbeats 16000000
set_option maxRecDepth 100000
attribute [local irreducible] WalkL Walk

/-! ### The example -/

def exL : Limits := ⟨40, 0, ⟨-5, 15⟩⟩
def exR : Rule := ⟨1, 1, exL⟩
def exSafe : Net := ⟨4, [⟨0, 1, 2, ⟨100, 120⟩, ⟨0, 0⟩, [⟨0, 2880⟩]⟩, ⟨1, 2, 3, ⟨60, 90⟩, ⟨4, 10⟩, [⟨180, 239⟩]⟩, ⟨2, 3, 2, ⟨60, 60⟩, ⟨0, 0⟩, [⟨400, 700⟩]⟩, ⟨0, 3, 2, ⟨300, 400⟩, ⟨0, 0⟩, [⟨0, 2880⟩]⟩, ⟨3, 0, 2, ⟨200, 240⟩, ⟨0, 0⟩, [⟨0, 2880⟩]⟩]⟩

theorem gap_ex : gapF exF [] exL 3 = (4, 0) := by kernel_rfl
theorem safe_ex : safeF exN [exR] exF [] = (exSafe, 0) := by kernel_rfl
theorem exF_small : ForeSmall exF := ⟨by decide, by intro l hl; revert hl l; decide⟩

theorem f9 : Fn Tryz.prog 9 [] (.bool true) := by
  have h35 := f37
  have h36 := f38
  have h14 := f26 exF [] exL 3 exF_small (by decide)
  have h37 := f15 exN [exR] exF [] ex_small (by decide) exF_small (by decide)
  rw [gap_ex] at h14
  rw [safe_ex] at h37
  have h38 := f39 180 239
  have e0 : sightRows [] = [] := rfl
  rw [e0] at h14 h37
  have e1 : exL.row = [.i 40, .i 0, .i (-5), .i 15] := rfl
  have e2 : ruleRows [exR] = [[.i 1, .i 1, .i 40, .i 0, .i (-5), .i 15]] := rfl
  rw [e1] at h14
  rw [e2] at h37
  simp only [exSafe, Net.cells, Path.row, Span.row, List.map_cons, List.map_nil] at h37
  simp only [Net.cells, exP, Party.cells] at h36
  dsimp only at h14 h37
  generalize exN.paths.map Path.row = P at h36 h37
  generalize exN.places = pl at h36 h37
  generalize scenRows exF = FF at h35 h14 h37
  refine fn_walk 69 Tryz.call9 Tryz.func9 rfl (by decide) fun J => ?_
  simp (maxSteps := 4000000) only [go_sem, St.start, Tryz.ntmps9, Tryz.results9]
  repeat (first | refine walkL_seq ?_ | refine walkL_skip ?_ | refine walkL_block ?_ | (refine walkL_region fun K hK => ?_; simp (maxSteps := 4000000) only [go_sem]; (repeat (first | (refine ⟨_, .lent (hf := h35) (hd := rfl) (hr := rfl), ?_⟩; simp (maxSteps := 4000000) only [go_sem]) | (refine ⟨_, .lent (hf := h36) (hd := rfl) (hr := rfl), ?_⟩; simp (maxSteps := 4000000) only [go_sem]) | (refine ⟨_, .lent (hf := h14) (hd := rfl) (hr := rfl), ?_⟩; simp (maxSteps := 4000000) only [go_sem]) | (refine ⟨_, .lent (hf := h37) (hd := rfl) (hr := rfl), ?_⟩; simp (maxSteps := 4000000) only [go_sem]) | (refine ⟨_, .lent (hf := h38) (hd := rfl) (hr := rfl), ?_⟩; simp (maxSteps := 4000000) only [go_sem]) | (refine ⟨_, .given (hf := h35) (hd := rfl) (ha := rfl), ?_⟩; simp (maxSteps := 4000000) only [go_sem]) | (refine ⟨_, .given (hf := h36) (hd := rfl) (ha := rfl), ?_⟩; simp (maxSteps := 4000000) only [go_sem]) | (refine ⟨_, .given (hf := h14) (hd := rfl) (ha := rfl), ?_⟩; simp (maxSteps := 4000000) only [go_sem]) | (refine ⟨_, .given (hf := h37) (hd := rfl) (ha := rfl), ?_⟩; simp (maxSteps := 4000000) only [go_sem]) | (refine ⟨_, .given (hf := h38) (hd := rfl) (ha := rfl), ?_⟩; simp (maxSteps := 4000000) only [go_sem]))); refine hK _ ?_; clear hK K) | (refine walkL_drawn (by kernel_rfl) (by kernel_rfl) fun K hK => ?_; simp (maxSteps := 4000000) only [go_sem]; (repeat (first | (refine ⟨_, .fn (hf := h35) (hd := rfl) (hr := .inl rfl), ?_⟩; simp (maxSteps := 4000000) only [go_sem]) | (refine ⟨_, .fn (hf := h36) (hd := rfl) (hr := .inl rfl), ?_⟩; simp (maxSteps := 4000000) only [go_sem]) | (refine ⟨_, .fn (hf := h14) (hd := rfl) (hr := .inl rfl), ?_⟩; simp (maxSteps := 4000000) only [go_sem]) | (refine ⟨_, .fn (hf := h37) (hd := rfl) (hr := .inl rfl), ?_⟩; simp (maxSteps := 4000000) only [go_sem]) | (refine ⟨_, .fn (hf := h38) (hd := rfl) (hr := .inl rfl), ?_⟩; simp (maxSteps := 4000000) only [go_sem]))); refine ⟨by kernel_rfl, hK _ ?_⟩; clear hK K) | refine walkL_nil ?_ | refine walkL_ret ?_ | refine walkL_exit ?_ | refine blockA_here ?_ | refine blockA_other rfl ?_ | refine blockA_ret ?_ | refine blockA_normal ?_ | refine thenA_ret ?_ | refine thenA_exit ?_ | refine thenA_normal ?_)
  simp (maxSteps := 4000000) only [go_sem]
end Go.Ab
namespace Go.Ab
open Go.RowKit Go.Proofs
set_option maxHeartbeats 8000000
set_option maxRecDepth 20000
attribute [local irreducible] WalkL Walk

/-! ### WeatherRanges -/

theorem seen_vals (F : List (List Hour)) (seen : List Sight) (t : Bool) : (seenF F seen ≠ 0 → lookF F seen 0 t = seenF F seen) ∧ (seenF F seen = 0 → ForeGood F ∧ sightsB (hd0 F).length seen = true ∧ lookF F seen 0 t = if t then (if (possL F seen).isEmpty then 3 else 0) else 1) := by
  unfold seenF lookF
  cases hb : badF F
  · cases hq : sightsB (hd0 F).length seen
    · simp
    · simp only [Bool.false_eq_true, if_false, if_true]
      exact ⟨fun h => absurd rfl h, fun _ => ⟨fore_iff.1 hb, trivial, trivial⟩⟩
  · simp

end Go.Ab
namespace Go.Ab
open Go.RowKit Go.Proofs
set_option maxHeartbeats 4000000
set_option maxRecDepth 20000

/-! ### Plain laws: spans of what is so, weathers, windows, gaps -/

/-- Real: observations, a weather, limits, a length. -/
structure RealX where
  seen : List Sight
  skies : List Sky
  lim : Limits
  len : Int
def RealX.cells (x : RealX) : List DV := [.sl (sightRows x.seen), .sl (skyRows x.skies), .i x.lim.wind, .i x.lim.rain, .i x.lim.temp.lo, .i x.lim.temp.hi, .i x.len]
structure EaseX where
  sight : Sight
  wind : Int
  rain : Int
  temp : Int
  less : Int
def EaseX.cells (y : EaseX) : List DV := [.i y.sight.hour, .i y.sight.sky.wind, .i y.sight.sky.rain, .i y.sight.sky.temp, .i y.wind, .i y.rain, .i y.temp, .i y.less]

theorem addSpan_in (A : List Span) (hA : ∀ s ∈ A, s.lo ≤ s.hi) (i x : Int) : inSpans (addSpan A i) x = (inSpans A x || (x == i)) := by
  rcases last_split A with rfl | ⟨B, s, rfl⟩
  · rw [Bool.eq_iff_iff]
    simp [addSpan, inSpans, withinB]
    omega
  · rw [addSpan_app]
    have hs := hA s (by simp)
    split
    · rename_i h
      have h : s.hi = i - 1 := by simpa using h
      have e : (s.lo ≤ x ∧ x ≤ i) ↔ ((s.lo ≤ x ∧ x ≤ s.hi) ∨ x = i) := by omega
      rw [Bool.eq_iff_iff]
      simp only [inSpans, withinB, List.any_append, List.any_cons, List.any_nil, Bool.or_false, Bool.or_eq_true, Bool.and_eq_true, decide_eq_true_eq, beq_iff_eq]
      rw [e, or_assoc]
    · rw [Bool.eq_iff_iff]
      have e : (i ≤ x ∧ x ≤ i) ↔ x = i := by omega
      simp only [inSpans, withinB, List.any_append, List.any_cons, List.any_nil, Bool.or_false, Bool.or_eq_true, Bool.and_eq_true, decide_eq_true_eq, beq_iff_eq]
      rw [e]

theorem addSpan_ok {A : List Span} {n : Nat} (hA : ∀ s ∈ A, 0 ≤ s.lo ∧ s.lo ≤ s.hi ∧ s.hi < (n : Int)) : ∀ s ∈ addSpan A (n : Int), 0 ≤ s.lo ∧ s.lo ≤ s.hi ∧ s.hi < ((n + 1 : Nat) : Int) := by
  rcases last_split A with rfl | ⟨B, s, rfl⟩
  · intro x hx
    simp only [addSpan, List.getLast?_nil, List.mem_singleton] at hx
    subst hx
    dsimp only
    omega
  · rw [addSpan_app]
    have hs := hA s (by simp)
    intro x hx
    split at hx
    · rcases List.mem_append.1 hx with hx | hx
      · have := hA x (by simp [hx]); omega
      · simp only [List.mem_singleton] at hx
        subst hx
        dsimp only
        omega
    · rcases List.mem_append.1 hx with hx | hx
      · have := hA x hx; omega
      · simp only [List.mem_singleton] at hx
        subst hx
        dsimp only
        omega

theorem spansQ_ok (q : Nat → Bool) : ∀ n, ∀ s ∈ spansQ q n, 0 ≤ s.lo ∧ s.lo ≤ s.hi ∧ s.hi < (n : Int)
  | 0 => fun s hs => by simp [spansQ] at hs
  | n + 1 => by
    have ih := spansQ_ok q n
    rw [spansQ]
    split
    · exact addSpan_ok ih
    · intro s hs
      have := ih s hs
      omega

theorem inSpans_spansQ (q : Nat → Bool) (x : Nat) : ∀ n, inSpans (spansQ q n) (x : Int) = (decide (x < n) && q x)
  | 0 => by simp [spansQ, inSpans]
  | n + 1 => by
    have ih := inSpans_spansQ q x n
    rw [spansQ]
    by_cases hx : x = n
    · subst hx
      have h0 : inSpans (spansQ q x) (x : Int) = false := by rw [ih]; simp
      split
      · rename_i hq
        rw [addSpan_in _ (fun s hs => (spansQ_ok q x s hs).2.1), hq]
        simp
      · rename_i hq
        rw [h0]
        simp [Bool.eq_false_iff.2 hq]
    · have e : decide (x < n + 1) = decide (x < n) := by
        by_cases h : x < n
        · rw [decide_eq_true h, decide_eq_true (by omega)]
        · rw [decide_eq_false h, decide_eq_false (by omega)]
      have e2 : ((x : Int) == (n : Int)) = false := by
        have : ¬ (x : Int) = (n : Int) := by omega
        simpa using this
      rw [e]
      split
      · rw [addSpan_in _ (fun s hs => (spansQ_ok q n s hs).2.1), ih, e2, Bool.or_false]
      · exact ih

/-! ### Weathers -/

theorem we5_iff {F : List (List Hour)} {seen : List Sight} {m : List Sky} : weB F seen m = true ↔
    m.length = (hd0 F).length ∧ (∀ s ∈ seen, skyAt m s.hour.toNat = s.sky) ∧ ∃ l ∈ F, agreesB seen l = true ∧ ∀ j < m.length, insideB (skyAt m j) (hourAt l (j : Int)) = true := by
  unfold weB seenEq
  rw [Bool.and_eq_true, Bool.and_eq_true, beq_iff_eq, List.all_eq_true, List.any_eq_true]
  constructor
  · rintro ⟨h1, h2, k, hk, hin⟩
    obtain ⟨i, hi⟩ := List.getElem?_of_mem hk
    obtain ⟨_, l, h3, h4, h5, _⟩ := nums_get hi
    rw [h4] at hin
    exact ⟨by omega, fun s hs => skyB_iff.1 (h2 s hs), l, List.mem_of_getElem? h3, h5, (inTo_iff _ _ _).1 hin⟩
  · rintro ⟨h1, h2, l, hl, ha, hin⟩
    refine ⟨by omega, fun s hs => skyB_iff.2 (h2 s hs), ?_⟩
    obtain ⟨i, hi⟩ := List.getElem?_of_mem hl
    have key : ∀ (F : List (List Hour)) (j i : Nat), F[i]? = some l → (j + i, seenHours seen l) ∈ possFrom seen F j := by
      intro F
      induction F with
      | nil => intro j i h; simp at h
      | cons x F ih =>
        intro j i h
        rw [possFrom]
        cases i with
        | zero =>
          simp at h
          subst h
          rw [if_pos ha]
          simp
        | succ i =>
          have := ih (j + 1) i (by simpa using h)
          rw [show j + 1 + i = j + (i + 1) by omega] at this
          split
          · exact List.mem_cons_of_mem _ this
          · exact this
    have hm := key F 0 i hi
    rw [Nat.zero_add] at hm
    refine ⟨(i : Int), List.mem_map.2 ⟨_, hm, rfl⟩, ?_⟩
    have : scenAt F (i : Int) = l := by simp [scenAt, hi]
    rw [this]
    exact (inTo_iff _ _ _).2 hin

theorem scens5_mem {F : List (List Hour)} {seen : List Sight} {l' : List Hour} : l' ∈ scensOf (possL F seen) ↔ ∃ l ∈ F, agreesB seen l = true ∧ l' = seenHours seen l := by
  unfold scensOf possL
  generalize hj : 0 = j
  clear hj
  induction F generalizing j with
  | nil => simp [possFrom]
  | cons x F ih =>
    rw [possFrom]
    split
    · rename_i h
      rw [List.map_cons, List.mem_cons, ih]
      constructor
      · rintro (rfl | ⟨l, h1, h2⟩)
        · exact ⟨x, by simp, h, rfl⟩
        · exact ⟨l, by simp [h1], h2⟩
      · rintro ⟨l, h1, h2, h3⟩
        rcases List.mem_cons.1 h1 with rfl | h1
        · exact Or.inl h3
        · exact Or.inr ⟨l, h1, h2, h3⟩
    · rename_i h
      rw [ih]
      constructor
      · rintro ⟨l, h1, h2⟩
        exact ⟨l, by simp [h1], h2⟩
      · rintro ⟨l, h1, h2, h3⟩
        rcases List.mem_cons.1 h1 with rfl | h1
        · exact absurd h2 h
        · exact ⟨l, h1, h2, h3⟩

theorem sight5_range {F : List (List Hour)} {seen : List Sight} (hg : ForeGood F) (hsi : sightsB (hd0 F).length seen = true) {l : List Hour} (hl : l ∈ F) : ∀ s ∈ seen, 0 ≤ s.hour ∧ s.hour.toNat < l.length := by
  intro s hs
  have h1 := (sights_spec hsi).1 s hs
  have h2 := hg.len l hl
  omega

/-- A possible weather lies in a possible scenario, as it is known by the observations. -/
theorem we_in {F : List (List Hour)} {seen : List Sight} (hg : ForeGood F) (hsi : sightsB (hd0 F).length seen = true) {m : List Sky} (h : weB F seen m = true) :
    m.length = (hd0 F).length ∧ ∃ s ∈ scensOf (possL F seen), s.length = m.length ∧ ∀ j < m.length, insideB (skyAt m j) (hourAt s (j : Int)) = true := by
  obtain ⟨h1, h2, l, hl, ha, hin⟩ := we5_iff.1 h
  refine ⟨h1, seenHours seen l, scens5_mem.2 ⟨l, hl, ha, rfl⟩, by rw [seenHours_len, hg.len l hl, h1], fun j hj => ?_⟩
  have hsa := seenHours_at (seen := seen) (l := l) j (sight5_range hg hsi hl) (sights_spec hsi).2.1
  by_cases hex : ∃ s ∈ seen, s.hour = (j : Int)
  · obtain ⟨s, hs, hj2⟩ := hex
    rw [hsa.1 s hs hj2]
    have := h2 s hs
    rw [hj2, Int.toNat_natCast] at this
    rw [this]
    exact inside_point _
  · rw [hsa.2 (fun s hs he => hex ⟨s, hs, he⟩)]
    exact hin j hj

theorem inside5_iff {s : Sky} {h : Hour} : insideB s h = true ↔ (h.wind.lo ≤ s.wind ∧ s.wind ≤ h.wind.hi) ∧ (h.rain.lo ≤ s.rain ∧ s.rain ≤ h.rain.hi) ∧ (h.temp.lo ≤ s.temp ∧ s.temp ≤ h.temp.hi) := by
  simp [insideB, withinB]

theorem kept_iff {s : Sky} {l : Limits} : keptB s l = true ↔ s.wind ≤ l.wind ∧ s.rain ≤ l.rain ∧ l.temp.lo ≤ s.temp ∧ s.temp ≤ l.temp.hi := by simp [keptB, withinB]
theorem always_iff {l : Limits} {h : Hour} : alwaysB l h = true ↔ h.wind.hi ≤ l.wind ∧ h.rain.hi ≤ l.rain ∧ l.temp.lo ≤ h.temp.lo ∧ h.temp.hi ≤ l.temp.hi := by simp [alwaysB]
theorem ever_iff {l : Limits} {h : Hour} : everB l h = true ↔ h.wind.lo ≤ l.wind ∧ h.rain.lo ≤ l.rain ∧ max l.temp.lo h.temp.lo ≤ min l.temp.hi h.temp.hi := by simp [everB]
theorem always_kept {x : Sky} {l : Limits} {h : Hour} (hi : insideB x h = true) (ha : alwaysB l h = true) : keptB x l = true := by
  rw [inside5_iff] at hi
  rw [always_iff] at ha
  rw [kept_iff]
  omega
theorem kept_ever {x : Sky} {l : Limits} {h : Hour} (hi : insideB x h = true) (hk : keptB x l = true) : everB l h = true := by
  rw [inside5_iff] at hi
  rw [kept_iff] at hk
  rw [ever_iff]
  omega

/-! ### Windows -/

def IsBegin (l : List Bool) (n h : Nat) : Prop := ∀ k, h ≤ k → k < h + n → l[k]? = some true

theorem begins_from {n : Nat} (hn : 1 ≤ n) (L : List Bool) : ∀ (b : List Bool) (i run : Nat), L.drop i = b → run < n → run ≤ i → (∀ k, i - run ≤ k → k < i → L[k]? = some true) → (run < i → L[i - run - 1]? = some false) → (∀ h, h + n ≤ i → ¬ IsBegin L n h) →
    (beginsFrom (n : Int) b i run = -1 ∧ ∀ h, ¬ IsBegin L n h) ∨ ∃ r : Nat, beginsFrom (n : Int) b i run = r ∧ IsBegin L n r ∧ ∀ h < r, ¬ IsBegin L n h
  | [], i, run, hd, h1, h2, h3, h4, h5 => by
    refine .inl ⟨rfl, fun h hb => ?_⟩
    have hl : L.length ≤ i := by
      have := congrArg List.length hd
      simp at this
      omega
    have := hb (h + n - 1) (by omega) (by omega)
    have : h + n - 1 < L.length := (List.getElem?_eq_some_iff.1 this).1
    exact h5 h (by omega) hb
  | x :: b, i, run, hd, h1, h2, h3, h4, h5 => by
    have hx : L[i]? = some x := by
      have := congrArg (·[0]?) hd
      simpa using this
    have hd' : L.drop (i + 1) = b := by
      have := congrArg List.tail hd
      simpa using this
    rw [beginsFrom]
    cases x
    · simp only [Bool.false_eq_true, if_false]
      rw [if_neg (by omega)]
      refine begins_from hn L b (i + 1) 0 hd' (by omega) (by omega) (fun k _ _ => by omega) (fun _ => by simpa using hx) ?_
      intro h hh hb
      by_cases hc : h + n ≤ i
      · exact h5 h hc hb
      · have := hb i (by omega) (by omega)
        rw [hx] at this
        cases this
    · simp only [if_true]
      by_cases he : (run : Int) + 1 = n
      · rw [if_pos he]
        refine .inr ⟨i - run, by omega, fun k hk1 hk2 => ?_, fun h hh => h5 h (by omega)⟩
        by_cases hk : k = i
        · rw [hk]; exact hx
        · exact h3 k hk1 (by omega)
      · rw [if_neg he]
        have := begins_from hn L b (i + 1) (run + 1) hd' (by omega) (by omega) (fun k hk1 hk2 => by
          by_cases hk : k = i
          · rw [hk]; exact hx
          · exact h3 k (by omega) (by omega)) (fun hlt => by
            have := h4 (by omega)
            rw [show i + 1 - (run + 1) - 1 = i - run - 1 by omega]
            exact this) ?_
        · simpa using this
        · intro h hh hb
          by_cases hc : h + n ≤ i
          · exact h5 h hc hb
          · by_cases hr : run < i
            · have e := hb (i - run - 1) (by omega) (by omega)
              rw [h4 hr] at e
              cases e
            · omega

theorem begins_spec {n : Nat} (hn : 1 ≤ n) (l : List Bool) : (beginsF l n = -1 ∧ ∀ h, ¬ IsBegin l n h) ∨ ∃ r : Nat, beginsF l n = r ∧ IsBegin l n r ∧ ∀ h < r, ¬ IsBegin l n h := by
  have := begins_from hn l l 0 0 rfl (by omega) (by omega) (fun k _ h => by omega) (fun h => by omega) (fun h hh => by omega)
  exact this

theorem begins_of {n : Nat} (hn : 1 ≤ n) {l : List Bool} {h : Nat} (hb : IsBegin l n h) : 0 ≤ beginsF l n ∧ beginsF l n ≤ h := by
  rcases begins_spec hn l with ⟨_, h2⟩ | ⟨r, h1, h2, h3⟩
  · exact absurd hb (h2 h)
  · rw [h1]
    refine ⟨by omega, ?_⟩
    by_cases hc : h < r
    · exact absurd hb (h3 h hc)
    · omega
theorem begins_is {n : Nat} (hn : 1 ≤ n) {l : List Bool} (h : 0 ≤ beginsF l n) : IsBegin l n (beginsF l n).toNat := by
  rcases begins_spec hn l with ⟨h1, _⟩ | ⟨r, h1, h2, h3⟩
  · omega
  · rw [h1]; simpa using h2
theorem begins_end {n : Nat} (hn : 1 ≤ n) {l : List Bool} (h : 0 ≤ beginsF l n) : beginsF l n + n ≤ l.length := by
  have := begins_is hn h ((beginsF l n).toNat + n - 1) (by omega) (by omega)
  have := (List.getElem?_eq_some_iff.1 this).1
  omega
def LeB (A B : List Bool) : Prop := ∀ k : Nat, A[k]? = some true → B[k]? = some true
theorem LeB.drop {A B : List Bool} (h : LeB A B) (k : Nat) : LeB (A.drop k) (B.drop k) := fun i hi => by
  rw [List.getElem?_drop] at hi ⊢
  exact h _ hi
theorem begins_mono {n : Nat} (hn : 1 ≤ n) {A B : List Bool} (h : LeB A B) (hA : 0 ≤ beginsF A n) : 0 ≤ beginsF B n ∧ beginsF B n ≤ beginsF A n := by
  have := begins_of hn (l := B) (h := (beginsF A n).toNat) (fun k h1 h2 => h k (begins_is hn hA k h1 h2))
  omega

theorem gapAt_mono {n : Nat} (hn : 1 ≤ n) {A B : List Bool} (h : LeB A B) (hl : A.length = B.length) {k : Nat} (hk : k ≤ A.length) : gapAt B n k ≤ gapAt A n k := by
  unfold gapAt
  by_cases hA : 0 ≤ beginsF (A.drop k) n
  · have := begins_mono hn (h.drop k) hA
    rw [if_pos (show decide (beginsF (A.drop k) n ≥ 0) = true by simpa using hA), if_pos (show decide (beginsF (B.drop k) n ≥ 0) = true by simpa using this.1)]
    omega
  · rw [if_neg (show ¬ decide (beginsF (A.drop k) n ≥ 0) = true by simpa using hA)]
    by_cases hB : 0 ≤ beginsF (B.drop k) n
    · have := begins_end hn hB
      rw [List.length_drop] at this
      rw [if_pos (show decide (beginsF (B.drop k) n ≥ 0) = true by simpa using hB)]
      omega
    · rw [if_neg (show ¬ decide (beginsF (B.drop k) n ≥ 0) = true by simpa using hB)]
      omega

theorem gapTo_le {b : List Bool} {n : Int} {G : Int} : ∀ (k : Nat) (g : Int), gapTo b n k g ≤ G ↔ g ≤ G ∧ ∀ j < k, gapAt b n j ≤ G
  | 0, g => by simp [gapTo]
  | k + 1, g => by
    rw [gapTo, Int.max_le, gapTo_le k g]
    constructor
    · rintro ⟨⟨h1, h2⟩, h3⟩
      refine ⟨h1, fun j hj => ?_⟩
      rcases Nat.lt_succ_iff_lt_or_eq.1 hj with h | rfl
      · exact h2 j h
      · exact h3
    · rintro ⟨h1, h2⟩
      exact ⟨⟨h1, fun j hj => h2 j (by omega)⟩, h2 k (by omega)⟩

theorem gapS_fold {l : Limits} {n : Int} {G : Int} : ∀ (S : List (List Hour)) (g : Int), S.foldl (fun g s => gapTo (s.map (alwaysB l)) n s.length g) g ≤ G ↔ g ≤ G ∧ ∀ s ∈ S, ∀ j < s.length, gapAt (s.map (alwaysB l)) n j ≤ G
  | [], g => by simp
  | s :: S, g => by
    rw [List.foldl_cons, gapS_fold S, gapTo_le]
    simp only [List.mem_cons, forall_eq_or_imp, and_assoc]
theorem gapS_le {l : Limits} {n : Int} {G : Int} {S : List (List Hour)} : gapS l n S ≤ G ↔ 0 ≤ G ∧ ∀ s ∈ S, ∀ j < s.length, gapAt (s.map (alwaysB l)) n j ≤ G := gapS_fold S 0

theorem winFirst_le {l : Limits} {n G : Int} : ∀ (S : List (List Hour)) (H : Int), G ≤ winFirst l n S H ↔ G ≤ H ∧ ∀ s ∈ S, 0 ≤ beginsF (s.map (everB l)) n → G ≤ beginsF (s.map (everB l)) n
  | [], H => by simp [winFirst]
  | s :: S, H => by
    have ih := winFirst_le (l := l) (n := n) (G := G) S
    unfold winFirst at ih ⊢
    rw [List.foldl_cons, ih]
    simp only [List.mem_cons, forall_eq_or_imp]
    by_cases h : 0 ≤ beginsF (s.map (everB l)) n
    · rw [if_pos (by simpa using h), Int.le_min]
      constructor
      · rintro ⟨⟨h1, h2⟩, h3⟩; exact ⟨h1, fun _ => h2, h3⟩
      · rintro ⟨h1, h2, h3⟩; exact ⟨⟨h1, h2 h⟩, h3⟩
    · rw [if_neg (by simpa using h)]
      constructor
      · rintro ⟨h1, h3⟩; exact ⟨h1, fun hc => absurd hc h, h3⟩
      · rintro ⟨h1, _, h3⟩; exact ⟨h1, h3⟩
theorem winLast_fold {l : Limits} {n G : Int} : ∀ (S : List (List Hour)) (a : Int), S.foldl (fun a s => max a (beginsF (s.map (alwaysB l)) n)) a ≤ G ↔ a ≤ G ∧ ∀ s ∈ S, beginsF (s.map (alwaysB l)) n ≤ G
  | [], a => by simp
  | s :: S, a => by
    rw [List.foldl_cons, winLast_fold S, Int.max_le]
    simp only [List.mem_cons, forall_eq_or_imp, and_assoc]
theorem winLast_le {l : Limits} {n G : Int} {S : List (List Hour)} : winLast l n S ≤ G ↔ -1 ≤ G ∧ ∀ s ∈ S, beginsF (s.map (alwaysB l)) n ≤ G := winLast_fold S _

/-- Whether each hour of a weather keeps limits. -/
def keptL (m : List Sky) (l : Limits) : List Bool := m.map fun x => keptB x l

theorem map_hour {s : List Hour} {q : Hour → Bool} {k : Nat} (hk : k < s.length) : (s.map q)[k]? = some (q (hourAt s (k : Int))) := by
  rw [List.getElem?_map]
  have := hourAt_get (l := s) (i := (k : Int)) ⟨by omega, by omega⟩
  rw [Int.toNat_natCast] at this
  rw [this]
  rfl
theorem keptL_at {m : List Sky} {l : Limits} {k : Nat} (hk : k < m.length) : (keptL m l)[k]? = some (keptB (skyAt m k) l) := by
  rw [keptL, List.getElem?_map, skyAt_get hk]
  rfl

theorem kept_between {m : List Sky} {l : Limits} {s : List Hour} (hl : s.length = m.length) (hin : ∀ j < m.length, insideB (skyAt m j) (hourAt s (j : Int)) = true) :
    LeB (s.map (alwaysB l)) (keptL m l) ∧ LeB (keptL m l) (s.map (everB l)) := by
  constructor
  · intro k hk
    have hlt : k < s.length := by have := (List.getElem?_eq_some_iff.1 hk).1; simpa using this
    rw [map_hour hlt] at hk
    rw [keptL_at (by omega)]
    rw [always_kept (hin k (by omega)) (by simpa using hk)]
  · intro k hk
    have hlt : k < m.length := by have := (List.getElem?_eq_some_iff.1 hk).1; simpa [keptL] using this
    rw [keptL_at hlt] at hk
    rw [map_hour (by omega), kept_ever (hin k hlt) (by simpa using hk)]

/-- The theorem of the window, as a plain law. -/
theorem comes {S : List (List Hour)} {m : List Sky} {l : Limits} {n : Nat} (hn : 1 ≤ n) {s : List Hour} (hs : s ∈ S) (hl : s.length = m.length) (hin : ∀ j < m.length, insideB (skyAt m j) (hourAt s (j : Int)) = true) :
    (0 ≤ beginsF (keptL m l) n → 0 ≤ winFirst l n S m.length ∧ winFirst l n S m.length ≤ beginsF (keptL m l) n ∧ winFirst l n S m.length < m.length) ∧
    (winNever l n S = false → 0 ≤ beginsF (keptL m l) n ∧ beginsF (keptL m l) n ≤ winLast l n S ∧ winFirst l n S m.length ≤ winLast l n S) ∧
    ∀ k < m.length, gapAt (keptL m l) n k ≤ gapS l n S := by
  obtain ⟨hA, hE⟩ := kept_between (l := l) hl hin
  have hf := (winFirst_le S _).1 (Int.le_refl (winFirst l (n : Int) S m.length))
  have hla := winLast_le.1 (Int.le_refl (winLast l (n : Int) S))
  have hga := gapS_le.1 (Int.le_refl (gapS l (n : Int) S))
  refine ⟨fun hb => ?_, fun hnv => ?_, fun k hk => ?_⟩
  · have h1 := begins_mono hn hE hb
    have h2 := hf.2 s hs h1.1
    have h3 := begins_end hn hb
    have h4 : (keptL m l).length = m.length := by simp [keptL]
    refine ⟨(winFirst_le S _).2 ⟨by omega, fun _ _ h => h⟩, by omega, by omega⟩
  · have hs0 : 0 ≤ beginsF (s.map (alwaysB l)) n := by
      unfold winNever at hnv
      have := List.any_eq_false.1 hnv s hs
      simpa using this
    have h1 := begins_mono hn hA hs0
    have h2 := hla.2 s hs
    have h3 := begins_mono hn hE h1.1
    have h4 := hf.2 s hs h3.1
    exact ⟨h1.1, by omega, by omega⟩
  · have h1 := hga.2 s hs k (by omega)
    have h2 := gapAt_mono hn hA (by simp [keptL, hl]) (k := k) (by rw [List.length_map]; omega)
    omega
end Go.Ab
namespace Go.Ab
open Go.RowKit Go.Proofs
set_option maxHeartbeats 4000000
set_option maxRecDepth 20000

/-! ### Plain laws: wider limits, one more observation -/

def widerL (l : Limits) (wind rain temp : Int) : Limits := ⟨min 200 (l.wind + wind), min 100 (l.rain + rain), ⟨max (-50) (l.temp.lo - temp), min 50 (l.temp.hi + temp)⟩⟩
/-- Whether all hours of some spans lie in others. -/
def withinS (A B : List Span) (H : Nat) : Bool := (List.range H).all fun h => !(inSpans A (h : Int)) || inSpans B (h : Int)
end Go.Ab
namespace Go.Ab
open Go.RowKit Go.Proofs
set_option maxHeartbeats 4000000
set_option maxRecDepth 20000

/-! ### Plain laws: paths that are open in a weather -/

theorem limF_fold {P : Limits → Prop} (hP : ∀ a l, P (andL a l) ↔ P a ∧ P l) (b h : Int) : ∀ (rules : List Rule) (a : Limits),
    P (rules.foldl (fun l x => if decide (h - x.after ≤ b) then andL l x.lim else l) a) ↔ P a ∧ ∀ r ∈ rules, h - r.after ≤ b → P r.lim
  | [], a => by simp
  | r :: rules, a => by
    rw [List.foldl_cons, limF_fold hP b h rules]
    simp only [List.mem_cons, forall_eq_or_imp]
    by_cases hr : h - r.after ≤ b
    · rw [if_pos (by simpa using hr), hP]
      constructor
      · rintro ⟨⟨h1, h2⟩, h3⟩; exact ⟨h1, fun _ => h2, h3⟩
      · rintro ⟨h1, h2, h3⟩; exact ⟨⟨h1, h2 hr⟩, h3⟩
    · rw [if_neg (by simpa using hr)]
      constructor
      · rintro ⟨h1, h3⟩; exact ⟨h1, fun hc => absurd hc hr, h3⟩
      · rintro ⟨h1, _, h3⟩; exact ⟨h1, h3⟩
theorem limF_iff {P : Limits → Prop} (hP : ∀ a l, P (andL a l) ↔ P a ∧ P l) (rules : List Rule) (b h : Int) : P (limF rules b h) ↔ P wideL ∧ ∀ r ∈ rules, h - r.after ≤ b → P r.lim := limF_fold hP b h rules wideL

theorem kept_and {x : Sky} (a l : Limits) : keptB x (andL a l) = true ↔ keptB x a = true ∧ keptB x l = true := by
  rw [kept_iff, kept_iff, kept_iff]
  unfold andL
  dsimp only
  omega
theorem keepsB_iff {kf : Limits → Hour → Bool} {rules : List Rule} {s : List Hour} {h : Nat} : keepsB kf rules s h = true ↔ ∀ b, b ≤ h → kf (limF rules (b : Int) (h : Int)) (hourAt s (b : Int)) = true := by
  unfold keepsB
  rw [List.all_eq_true]
  exact ⟨fun hh b hb => hh b (by simpa using Nat.lt_succ_of_le hb), fun hh b hb => hh b (by have := List.mem_range.1 hb; omega)⟩

/-- Whether a path is open by the rules in an hour of a weather. -/
def isOpenF (rules : List Rule) (m : List Sky) (p : Int) (h : Nat) : Bool :=
  rules.all fun r => !(r.path == p) || (List.range (h + 1)).all fun b => !(decide ((h : Int) - r.after ≤ (b : Int))) || keptB (skyAt m b) r.lim
theorem isOpen_iff {rules : List Rule} {m : List Sky} {p : Int} {h : Nat} : isOpenF rules m p h = true ↔ ∀ r ∈ ofPath rules p, ∀ b, b ≤ h → (h : Int) - r.after ≤ (b : Int) → keptB (skyAt m b) r.lim = true := by
  unfold isOpenF ofPath
  rw [List.all_eq_true]
  constructor
  · intro hh r hr b hb hab
    obtain ⟨hr1, hr2⟩ := List.mem_filter.1 hr
    have := hh r hr1
    rw [hr2] at this
    have := List.all_eq_true.1 (show (List.range (h + 1)).all (fun b => !(decide ((h : Int) - r.after ≤ (b : Int))) || keptB (skyAt m b) r.lim) = true by simpa using this) b (by simpa using Nat.lt_succ_of_le hb)
    rw [decide_eq_true hab] at this
    simpa using this
  · intro hh r hr
    cases hp : (r.path == p)
    · rfl
    · have hr' : r ∈ rules.filter (fun r => r.path == p) := List.mem_filter.2 ⟨hr, hp⟩
      simp only [Bool.not_true, Bool.false_or, List.all_eq_true]
      intro b hb
      have hb : b ≤ h := by have := List.mem_range.1 hb; omega
      by_cases hab : (h : Int) - r.after ≤ (b : Int)
      · rw [hh r hr' b hb hab]; simp
      · rw [decide_eq_false hab]; rfl

/-- A path that surely is open by a scenario is open in a weather of it, and one that is open in it may be. -/
theorem open_mid {rules : List Rule} {m : List Sky} {s : List Hour} {p : Int} (hin : ∀ j < m.length, insideB (skyAt m j) (hourAt s (j : Int)) = true) (hw : ∀ j < m.length, keptB (skyAt m j) wideL = true) {h : Nat} (hh : h < m.length) :
    (keepsB alwaysB (ofPath rules p) s h = true → isOpenF rules m p h = true) ∧ (isOpenF rules m p h = true → keepsB everB (ofPath rules p) s h = true) := by
  rw [keepsB_iff, keepsB_iff, isOpen_iff]
  constructor
  · intro ha r hr b hb hab
    have h1 := always_kept (hin b (by omega)) (ha b hb)
    exact ((limF_iff (P := fun l => keptB (skyAt m b) l = true) kept_and _ _ _).1 h1).2 r hr hab
  · intro ha b hb
    refine kept_ever (hin b (by omega)) ?_
    exact (limF_iff (P := fun l => keptB (skyAt m b) l = true) kept_and _ _ _).2 ⟨hw b (by omega), fun r hr hab => ha r hr b hb hab⟩

theorem we_wide {F : List (List Hour)} {seen : List Sight} (hg : ForeGood F) {m : List Sky} (h : weB F seen m = true) : ∀ j < m.length, keptB (skyAt m j) wideL = true := by
  obtain ⟨h1, _, l, hl, _, hin⟩ := we5_iff.1 h
  intro j hj
  have hlen := hg.len l hl
  have hh := hg.hour l hl _ (List.mem_of_getElem? (hourAt_get (i := (j : Int)) ⟨by omega, by omega⟩))
  have hi := inside5_iff.1 (hin j hj)
  unfold hourB at hh
  rw [Bool.and_eq_true, Bool.and_eq_true, ordered_iff, ordered_iff, ordered_iff] at hh
  rw [kept_iff]
  unfold wideL
  dsimp only
  omega

/-- What is opened at a minute by Safe. -/
theorem safe_in {opens sure : List Span} {t : Nat} (h : inSpans (safeOpens opens sure) (t : Int) = true) : inSpans opens (t : Int) = true ∧ inSpans sure ((t / 60 : Nat) : Int) = true := by
  have h2 : inSpans (spansQ (fun t => inSpans opens t && inSpans sure ((t / 60 : Nat) : Int)) 2881) (t : Int) = true := by
    unfold safeOpens at h
    unfold inSpans at h ⊢
    rw [List.any_eq_true] at h ⊢
    obtain ⟨x, hx, hb⟩ := h
    exact ⟨x, List.mem_of_mem_take hx, hb⟩
  rw [inSpans_spansQ, Bool.and_eq_true, Bool.and_eq_true] at h2
  exact h2.2

/-- One hour of one path: open surely, open in the weather, open maybe. -/
theorem closed_hour {F : List (List Hour)} {seen : List Sight} (hg : ForeGood F) (hsi : sightsB (hd0 F).length seen = true) {m : List Sky} (hwe : weB F seen m = true) (rules : List Rule) (p : Int) {h : Nat} (hh : h < m.length) :
    (inSpans (openS (ofPath rules p) (scensOf (possL F seen)) (hd0 F).length) (h : Int) = true → isOpenF rules m p h = true) ∧
    (isOpenF rules m p h = true → inSpans (openM (ofPath rules p) (scensOf (possL F seen)) (hd0 F).length) (h : Int) = true) := by
  obtain ⟨hl, s, hs, hsl, hin⟩ := we_in hg hsi hwe
  have hm := open_mid (rules := rules) (p := p) hin (we_wide hg hwe) hh
  unfold openS openM
  rw [inSpans_spansQ, inSpans_spansQ, Bool.and_eq_true, Bool.and_eq_true, List.all_eq_true, List.any_eq_true]
  exact ⟨fun ha => hm.1 (ha.2 s hs), fun ha => ⟨decide_eq_true (by omega), s, hs, hm.2 ha⟩⟩

/-! ### Eased rules -/

def easeR (wind rain temp less : Int) (r : Rule) : Rule := ⟨r.path, max 0 (r.after - less), widerL r.lim wind rain temp⟩

end Go.Ab
namespace Go.Ab
open Go.RowKit Go.Proofs
set_option maxHeartbeats 4000000
set_option maxRecDepth 20000

/-! ### Plain laws: what WeatherTrue says of an hour; hours without a window, told one by one -/

/-- Whether a window begins at an hour, looked at so far. -/
def allTo (b : List Bool) (h j : Nat) : Bool := ((b.drop h).take j).all id
end Go.Ab
namespace Go.Ab
open Go.RowKit Go.Proofs
set_option maxHeartbeats 4000000
set_option maxRecDepth 20000
attribute [local irreducible] WalkL Walk

/-! ### WeatherTrue -/

theorem f21 (l : List Span) (n : Int) (hl : l.length < 2 ^ 30) : Fn Tryz.prog 21 [.sl (spanRows l), .i n] (.bool (inSpans l n)) := by
  refine fn_walk 28 Tryz.call21 Tryz.func21 rfl (by decide) fun J => ?_
  simp (maxSteps := 4000000) only [go_sem, St.start, Tryz.ntmps21, Tryz.results21]
  repeat (first | refine walkL_seq ?_ | refine walkL_skip ?_ | refine walkL_block ?_ | (refine walkL_region fun K hK => ?_; simp (maxSteps := 4000000) only [go_sem, spanRows_len]; refine hK _ ?_; clear hK K) | refine walkL_nil ?_ | refine walkL_ret ?_ | refine walkL_exit ?_ | refine blockA_here ?_ | refine blockA_other rfl ?_ | refine blockA_ret ?_ | refine blockA_normal ?_ | refine thenA_ret ?_ | refine thenA_exit ?_ | refine thenA_normal ?_)
  refine walkL_loopS (fun (i : Nat) => [(5, .d (.i i))]) (fun _ => []) (fun i => i ≤ l.length ∧ (l.take i).any (fun s => withinB n s.lo s.hi) = false) (fun i => l.length - i) 0 ?_ ⟨Nat.zero_le _, by simp⟩ ?_
  · simp (maxSteps := 4000000) only [go_sem]
    refine weak_of [] ?_ ?_ rfl rfl <;> simp [lessT, lessM, lessB, AV.less]
  · intro i ⟨hi, hf⟩
    simp (maxSteps := 4000000) only [go_sem]
    repeat (first | refine walkL_seq ?_ | refine walkL_skip ?_ | refine walkL_block ?_ | (refine walkL_region fun K hK => ?_; simp (maxSteps := 4000000) only [go_sem, spanRows_len]; refine hK _ ?_; clear hK K) | refine walkL_nil ?_ | refine walkL_ret ?_ | refine walkL_exit ?_ | refine blockA_here ?_ | refine blockA_other rfl ?_ | refine blockA_ret ?_ | refine blockA_normal ?_ | refine thenA_ret ?_ | refine thenA_exit ?_ | refine thenA_normal ?_)
    refine walkL_cond rfl (fun hb => ?_) (fun hb => ?_)
    · have hlt : i < l.length := by simpa using hb
      have hw : IntKind.i64.wrap ((i : Int) + 1) = ((i + 1 : Nat) : Int) := by rw [wr_small (by omega)]; simp
      obtain ⟨s, hs⟩ : ∃ s, l[i]? = some s := ⟨_, List.getElem?_eq_getElem hlt⟩
      have g1 := spanRows_at hs
      rw [Span.row] at g1
      have hw' : withinB n s.lo s.hi = (decide (s.lo ≤ n) && decide (n ≤ s.hi)) := by simp [withinB]
      have hnx : (l.take (i + 1)).any (fun s => withinB n s.lo s.hi) = withinB n s.lo s.hi := by
        rw [List.take_add_one, hs, List.any_append, hf]; simp
      cases q1 : decide (s.lo ≤ n) <;> cases q2 : decide (n ≤ s.hi)
      all_goals
        rw [q1, q2] at hw'
        repeat (first | refine walkL_true rfl ?_ | refine walkL_false rfl ?_ | refine walkL_seq ?_ | refine walkL_skip ?_ | refine walkL_block ?_ | (refine walkL_region fun K hK => ?_; simp (maxSteps := 4000000) only [go_sem, g1, q1, q2, hw]; refine hK _ ?_; clear hK K) | refine walkL_nil ?_ | refine walkL_ret ?_ | refine walkL_exit ?_ | refine blockA_here ?_ | refine blockA_other rfl ?_ | refine blockA_ret ?_ | refine blockA_normal ?_ | refine thenA_ret ?_ | refine thenA_exit ?_ | refine thenA_normal ?_)
      all_goals first
        | (refine ⟨rfl, i + 1, ?_, ⟨hlt, by rw [hnx, hw']; rfl⟩, by omega⟩
           refine weak_of [] ?_ ?_ rfl rfl <;> simp [lessT, lessM, lessB, AV.less]
           done)
        | (have e : inSpans l n = true := List.any_eq_true.2 ⟨s, List.mem_of_getElem? hs, hw'⟩
           simp (maxSteps := 4000000) only [go_sem, e]
           done)
    · have he : i = l.length := by (have : ¬ i < l.length := by simpa using hb); omega
      subst he
      rw [List.take_length] at hf
      have e : inSpans l n = false := hf
      repeat (first | refine walkL_seq ?_ | refine walkL_skip ?_ | refine walkL_block ?_ | (refine walkL_region fun K hK => ?_; simp (maxSteps := 4000000) only [go_sem]; refine hK _ ?_; clear hK K) | refine walkL_nil ?_ | refine walkL_ret ?_ | refine walkL_exit ?_ | refine blockA_here ?_ | refine blockA_other rfl ?_ | refine blockA_ret ?_ | refine blockA_normal ?_ | refine thenA_ret ?_ | refine thenA_exit ?_ | refine thenA_normal ?_)
      simp (maxSteps := 4000000) only [go_sem, e]

def weathersB (F : List (List Hour)) (seen : List Sight) (m : List Sky) : Bool := !far5 F seen && (decide (seenF F seen = 0) && weB F seen m)
theorem f18 (F : List (List Hour)) (seen : List Sight) (m : List Sky) (hs : ForeSmall F) (hsl : seen.length < 2 ^ 30) :
    Fn Tryz.prog 18 [.agg [.sl (scenRows F)], .sl (sightRows seen), .sl (skyRows m)] (.bool (weathersB F seen m)) := by
  have h7 := f7 F seen hs
  have h8 := f54 F seen hs hsl
  have hsv := seen_vals F seen true
  unfold weathersB
  obtain ⟨e, he⟩ : ∃ e, e = seenF F seen := ⟨_, rfl⟩
  rw [← he] at h8 hsv ⊢
  cases q : far5 F seen
  · rw [q] at h7
    by_cases h0 : e = 0
    · obtain ⟨hg, hsi, _⟩ := hsv.2 h0
      have h50 := f55 F seen m hg hsi
      have hz : (e == 0) = true := by simpa using h0
      have hd : decide (e = 0) = true := by simpa using h0
      rw [hd]
      obtain ⟨w, hw⟩ : ∃ w, w = weB F seen m := ⟨_, rfl⟩
      rw [← hw] at h50 ⊢
      refine fn_walk 23 Tryz.call18 Tryz.func18 rfl (by decide) fun J => ?_
      simp (maxSteps := 4000000) only [go_sem, St.start, Tryz.ntmps18, Tryz.results18]
      repeat (first | refine walkL_true rfl ?_ | refine walkL_false rfl ?_ | refine walkL_seq ?_ | refine walkL_skip ?_ | refine walkL_block ?_ | (refine walkL_region fun K hK => ?_; simp (maxSteps := 4000000) only [go_sem, hz]; (repeat (first | (refine ⟨_, .lent (hf := h7) (hd := rfl) (hr := rfl), ?_⟩; simp (maxSteps := 4000000) only [go_sem, hz]) | (refine ⟨_, .lent (hf := h8) (hd := rfl) (hr := rfl), ?_⟩; simp (maxSteps := 4000000) only [go_sem, hz]) | (refine ⟨_, .lent (hf := h50) (hd := rfl) (hr := rfl), ?_⟩; simp (maxSteps := 4000000) only [go_sem, hz]) | (refine ⟨_, .given (hf := h7) (hd := rfl) (ha := rfl), ?_⟩; simp (maxSteps := 4000000) only [go_sem, hz]) | (refine ⟨_, .given (hf := h8) (hd := rfl) (ha := rfl), ?_⟩; simp (maxSteps := 4000000) only [go_sem, hz]) | (refine ⟨_, .given (hf := h50) (hd := rfl) (ha := rfl), ?_⟩; simp (maxSteps := 4000000) only [go_sem, hz]))); refine hK _ ?_; clear hK K) | refine walkL_nil ?_ | refine walkL_ret ?_ | refine walkL_exit ?_ | refine blockA_here ?_ | refine blockA_other rfl ?_ | refine blockA_ret ?_ | refine blockA_normal ?_ | refine thenA_ret ?_ | refine thenA_exit ?_ | refine thenA_normal ?_)
      simp (maxSteps := 4000000) only [go_sem]
    · have hz : (e == 0) = false := by simpa using h0
      have hd : decide (e = 0) = false := by simpa using h0
      rw [hd]
      refine fn_walk 23 Tryz.call18 Tryz.func18 rfl (by decide) fun J => ?_
      simp (maxSteps := 4000000) only [go_sem, St.start, Tryz.ntmps18, Tryz.results18]
      repeat (first | refine walkL_true rfl ?_ | refine walkL_false rfl ?_ | refine walkL_seq ?_ | refine walkL_skip ?_ | refine walkL_block ?_ | (refine walkL_region fun K hK => ?_; simp (maxSteps := 4000000) only [go_sem, hz]; (repeat (first | (refine ⟨_, .lent (hf := h7) (hd := rfl) (hr := rfl), ?_⟩; simp (maxSteps := 4000000) only [go_sem, hz]) | (refine ⟨_, .lent (hf := h8) (hd := rfl) (hr := rfl), ?_⟩; simp (maxSteps := 4000000) only [go_sem, hz]) | (refine ⟨_, .given (hf := h7) (hd := rfl) (ha := rfl), ?_⟩; simp (maxSteps := 4000000) only [go_sem, hz]) | (refine ⟨_, .given (hf := h8) (hd := rfl) (ha := rfl), ?_⟩; simp (maxSteps := 4000000) only [go_sem, hz]))); refine hK _ ?_; clear hK K) | refine walkL_nil ?_ | refine walkL_ret ?_ | refine walkL_exit ?_ | refine blockA_here ?_ | refine blockA_other rfl ?_ | refine blockA_ret ?_ | refine blockA_normal ?_ | refine thenA_ret ?_ | refine thenA_exit ?_ | refine thenA_normal ?_)
      simp (maxSteps := 4000000) only [go_sem]
  · rw [q] at h7
    refine fn_walk 23 Tryz.call18 Tryz.func18 rfl (by decide) fun J => ?_
    simp (maxSteps := 4000000) only [go_sem, St.start, Tryz.ntmps18, Tryz.results18]
    repeat (first | refine walkL_true rfl ?_ | refine walkL_false rfl ?_ | refine walkL_seq ?_ | refine walkL_skip ?_ | refine walkL_block ?_ | (refine walkL_region fun K hK => ?_; simp (maxSteps := 4000000) only [go_sem]; (repeat (first | (refine ⟨_, .lent (hf := h7) (hd := rfl) (hr := rfl), ?_⟩; simp (maxSteps := 4000000) only [go_sem]) | (refine ⟨_, .given (hf := h7) (hd := rfl) (ha := rfl), ?_⟩; simp (maxSteps := 4000000) only [go_sem]))); refine hK _ ?_; clear hK K) | refine walkL_nil ?_ | refine walkL_ret ?_ | refine walkL_exit ?_ | refine blockA_here ?_ | refine blockA_other rfl ?_ | refine blockA_ret ?_ | refine blockA_normal ?_ | refine thenA_ret ?_ | refine thenA_exit ?_ | refine thenA_normal ?_)
    simp (maxSteps := 4000000) only [go_sem]
theorem weathers_iff {F : List (List Hour)} {seen : List Sight} {m : List Sky} (h : weathersB F seen m = true) : far5 F seen = false ∧ ForeGood F ∧ sightsB (hd0 F).length seen = true ∧ weB F seen m = true := by
  unfold weathersB at h
  simp only [Bool.and_eq_true, Bool.not_eq_true', decide_eq_true_eq] at h
  have := (seen_vals F seen true).2 h.2.1
  exact ⟨h.1, this.1, this.2.1, h.2.2⟩

end Go.Ab
namespace Go.Ab
open Go.RowKit Go.Proofs
set_option maxHeartbeats 8000000
set_option maxRecDepth 20000
attribute [local irreducible] WalkL Walk

end Go.Ab
namespace Go.Ab
open Go.RowKit Go.Proofs
set_option maxHeartbeats 8000000
set_option maxRecDepth 20000
attribute [local irreducible] WalkL Walk

/-! ### WeatherComes -/

end Go.Ab
namespace Go.Ab
open Go.RowKit Go.Proofs
set_option maxHeartbeats 8000000
set_option maxRecDepth 20000
attribute [local irreducible] WalkL Walk

end Go.Ab
namespace Go.Ab
open Go.RowKit Go.Proofs
set_option maxHeartbeats 8000000
set_option maxRecDepth 20000
attribute [local irreducible] WalkL Walk

end Go.Ab
namespace Go.Ab
open Go.RowKit Go.Proofs
set_option maxHeartbeats 8000000
set_option maxRecDepth 20000
attribute [local irreducible] WalkL Walk

/-! ### WeatherMore -/

end Go.Ab
namespace Go.Ab
open Go.RowKit Go.Proofs
set_option maxHeartbeats 8000000
set_option maxRecDepth 20000
attribute [local irreducible] WalkL Walk

/-! ### Rules of a net -/

theorem ruleRows_get {l : List Rule} {i : Nat} {x : Rule} (h : l[i]? = some x) : (ruleRows l)[i]? = some x.row := by simp [ruleRows, h]

structure RuledX where
  net : Net
  rules : List Rule
  path : Int
def RuledX.cells (x : RuledX) : List DV := [.i x.net.places, .sl (pathRows x.net.paths), .sl (ruleRows x.rules), .i x.path]

structure QueryX where
  hour : Int
  len : Int
  lim : Limits
def QueryX.cells (q : QueryX) : List DV := [.i q.hour, .i q.len, .i q.lim.wind, .i q.lim.rain, .i q.lim.temp.lo, .i q.lim.temp.hi]
structure WalkX where
  seen : List Sight
  ease : EaseX
  party : Party
  frm : Int
  start : Int
def WalkX.cells (k : WalkX) : List DV := [.sl (sightRows k.seen), .i k.ease.sight.hour, .i k.ease.sight.sky.wind, .i k.ease.sight.sky.rain, .i k.ease.sight.sky.temp, .i k.ease.wind, .i k.ease.rain, .i k.ease.temp, .i k.ease.less, .i k.party.grade, .i k.party.load, .i k.party.pace.lo, .i k.party.pace.hi, .i k.frm, .i k.start]

def farRules (x : RuledX) : Bool := farB x.net || decide ((x.rules.length : Int) > 14)
theorem f8 (x : RuledX) (hn : x.net.Small) : Fn Tryz.prog 8 [.agg x.cells] (.bool (farRules x)) := by
  have h36 := f36 x.net hn
  rw [Net.cells_eq] at h36
  unfold farRules
  cases q : farB x.net
  all_goals
    rw [q] at h36
    refine fn_walk 12 Tryz.call8 Tryz.func8 rfl (by decide) fun J => ?_
    simp (maxSteps := 4000000) only [go_sem, St.start, Tryz.ntmps8, Tryz.results8, RuledX.cells]
    repeat (first | refine walkL_true rfl ?_ | refine walkL_false rfl ?_ | refine walkL_seq ?_ | refine walkL_skip ?_ | refine walkL_block ?_ | (refine walkL_region fun K hK => ?_; simp (maxSteps := 4000000) only [go_sem]; (repeat (first | (refine ⟨_, .lent (hf := h36) (hd := rfl) (hr := rfl), ?_⟩; simp (maxSteps := 4000000) only [go_sem]) | (refine ⟨_, .given (hf := h36) (hd := rfl) (ha := rfl), ?_⟩; simp (maxSteps := 4000000) only [go_sem]))); refine hK _ ?_; clear hK K) | refine walkL_nil ?_ | refine walkL_ret ?_ | refine walkL_exit ?_ | refine blockA_here ?_ | refine blockA_other rfl ?_ | refine blockA_ret ?_ | refine blockA_normal ?_ | refine thenA_ret ?_ | refine thenA_exit ?_ | refine thenA_normal ?_)
    simp (maxSteps := 4000000) only [go_sem]

theorem f56 (n : Net) (rules : List Rule) (hn : n.Small) (hr : rules.length < 2 ^ 30) : Fn Tryz.prog 56 [.agg n.cells, .sl (ruleRows rules)] (.bool (!badRules n rules)) := by
  have hp := hn.paths
  refine fn_walk 41 Tryz.call56 Tryz.func56 rfl (by decide) fun J => ?_
  simp (maxSteps := 4000000) only [go_sem, St.start, Tryz.ntmps56, Tryz.results56, Net.cells_eq]
  repeat (first | refine walkL_seq ?_ | refine walkL_skip ?_ | refine walkL_block ?_ | (refine walkL_region fun K hK => ?_; simp (maxSteps := 4000000) only [go_sem]; refine hK _ ?_; clear hK K) | refine walkL_nil ?_ | refine walkL_ret ?_ | refine walkL_exit ?_ | refine blockA_here ?_ | refine blockA_other rfl ?_ | refine blockA_ret ?_ | refine blockA_normal ?_ | refine thenA_ret ?_ | refine thenA_exit ?_ | refine thenA_normal ?_)
  refine walkL_loopS (fun (i : Nat) => [(5, .d (.i i))]) (fun _ => []) (fun i => i ≤ rules.length ∧ (rules.take i).any (wrongR n.paths.length) = false) (fun i => rules.length - i) 0 ?_ ⟨Nat.zero_le _, by simp⟩ ?_
  · simp (maxSteps := 4000000) only [go_sem]
    refine weak_of [] ?_ ?_ rfl rfl <;> simp [lessT, lessM, lessB, AV.less]
  · intro i ⟨hi, hno⟩
    simp (maxSteps := 4000000) only [go_sem]
    repeat (first | refine walkL_seq ?_ | refine walkL_skip ?_ | refine walkL_block ?_ | (refine walkL_region fun K hK => ?_; simp (maxSteps := 4000000) only [go_sem, ruleRows_len]; refine hK _ ?_; clear hK K) | refine walkL_nil ?_ | refine walkL_ret ?_ | refine walkL_exit ?_ | refine blockA_here ?_ | refine blockA_other rfl ?_ | refine blockA_ret ?_ | refine blockA_normal ?_ | refine thenA_ret ?_ | refine thenA_exit ?_ | refine thenA_normal ?_)
    refine walkL_cond rfl (fun hb => ?_) (fun hb => ?_)
    · have hlt : i < rules.length := by simpa using hb
      have hw : IntKind.i64.wrap ((i : Int) + 1) = ((i + 1 : Nat) : Int) := by rw [wr_small (by omega)]; simp
      obtain ⟨x, hx⟩ : ∃ x, rules[i]? = some x := ⟨_, List.getElem?_eq_getElem hlt⟩
      have g1 := ruleRows_get hx
      rw [Rule.row] at g1
      have h43 := f43 n x.path (by omega)
      have h104 := f104 x.lim
      have h72 := f72 x.after 0 48
      rw [Net.cells_eq] at h43
      rw [Limits.row] at h104
      have hwr : wrongR n.paths.length x = (!withinB x.path 0 ((n.paths.length : Int) - 1) || (!limB x.lim || !withinB x.after 0 48)) := by
        unfold wrongR
        cases withinB x.path 0 ((n.paths.length : Int) - 1) <;> cases withinB x.after 0 48 <;> cases limB x.lim <;> rfl
      have hall : badRules n rules = true ∨ (badRules n rules = false → wrongR n.paths.length x = false) := by
        cases hbr : badRules n rules
        · right
          intro _
          unfold badRules at hbr
          rw [Bool.or_eq_false_iff] at hbr
          cases hw : wrongR n.paths.length x
          · rfl
          · have := List.any_eq_false.1 hbr.2 x (List.mem_of_getElem? hx)
            exact absurd hw this
        · exact .inl rfl
      obtain ⟨b1, e1⟩ : ∃ b, b = withinB x.path 0 ((n.paths.length : Int) - 1) := ⟨_, rfl⟩
      obtain ⟨b2, e2⟩ : ∃ b, b = withinB x.after 0 48 := ⟨_, rfl⟩
      obtain ⟨b3, e3⟩ : ∃ b, b = limB x.lim := ⟨_, rfl⟩
      rw [← e1] at h43
      rw [← e2] at h72
      rw [← e3] at h104
      rw [← e1, ← e2, ← e3] at hwr
      have hbad : wrongR n.paths.length x = true → badRules n rules = true := fun hw => by
        unfold badRules
        rw [List.any_eq_true.2 ⟨x, List.mem_of_getElem? hx, hw⟩, Bool.or_true]
      cases b1 <;> cases b2 <;> cases b3
      all_goals first
        | (have hbb := hbad (by rw [hwr]; rfl)
           rw [hbb]
           repeat (first | refine walkL_true rfl ?_ | refine walkL_false rfl ?_ | refine walkL_seq ?_ | refine walkL_skip ?_ | refine walkL_block ?_ | (refine walkL_region fun K hK => ?_; simp (maxSteps := 4000000) only [go_sem, g1, ruleRows_len]; (repeat (first | (refine ⟨_, .lent (hf := h43) (hd := rfl) (hr := rfl), ?_⟩; simp (maxSteps := 4000000) only [go_sem, g1, ruleRows_len]) | (refine ⟨_, .lent (hf := h104) (hd := rfl) (hr := rfl), ?_⟩; simp (maxSteps := 4000000) only [go_sem, g1, ruleRows_len]) | (refine ⟨_, .lent (hf := h72) (hd := rfl) (hr := rfl), ?_⟩; simp (maxSteps := 4000000) only [go_sem, g1, ruleRows_len]) | (refine ⟨_, .given (hf := h43) (hd := rfl) (ha := rfl), ?_⟩; simp (maxSteps := 4000000) only [go_sem, g1, ruleRows_len]) | (refine ⟨_, .given (hf := h104) (hd := rfl) (ha := rfl), ?_⟩; simp (maxSteps := 4000000) only [go_sem, g1, ruleRows_len]) | (refine ⟨_, .given (hf := h72) (hd := rfl) (ha := rfl), ?_⟩; simp (maxSteps := 4000000) only [go_sem, g1, ruleRows_len]))); refine hK _ ?_; clear hK K) | (refine walkL_drawn (by kernel_rfl) (by kernel_rfl) fun K hK => ?_; simp (maxSteps := 4000000) only [go_sem, g1, ruleRows_len]; (repeat (first | (refine ⟨_, .fn (hf := h43) (hd := rfl) (hr := .inl rfl), ?_⟩; simp (maxSteps := 4000000) only [go_sem, g1, ruleRows_len]) | (refine ⟨_, .fn (hf := h104) (hd := rfl) (hr := .inl rfl), ?_⟩; simp (maxSteps := 4000000) only [go_sem, g1, ruleRows_len]) | (refine ⟨_, .fn (hf := h72) (hd := rfl) (hr := .inl rfl), ?_⟩; simp (maxSteps := 4000000) only [go_sem, g1, ruleRows_len]))); refine ⟨by kernel_rfl, hK _ ?_⟩; clear hK K) | refine walkL_nil ?_ | refine walkL_ret ?_ | refine walkL_exit ?_ | refine blockA_here ?_ | refine blockA_other rfl ?_ | refine blockA_ret ?_ | refine blockA_normal ?_ | refine thenA_ret ?_ | refine thenA_exit ?_ | refine thenA_normal ?_)
           simp (maxSteps := 4000000) only [go_sem]
           done)
        | (have hw0 : wrongR n.paths.length x = false := by rw [hwr]; rfl
           repeat (first | refine walkL_true rfl ?_ | refine walkL_false rfl ?_ | refine walkL_seq ?_ | refine walkL_skip ?_ | refine walkL_block ?_ | (refine walkL_region fun K hK => ?_; simp (maxSteps := 4000000) only [go_sem, g1, hw]; (repeat (first | (refine ⟨_, .lent (hf := h43) (hd := rfl) (hr := rfl), ?_⟩; simp (maxSteps := 4000000) only [go_sem, g1, hw]) | (refine ⟨_, .lent (hf := h104) (hd := rfl) (hr := rfl), ?_⟩; simp (maxSteps := 4000000) only [go_sem, g1, hw]) | (refine ⟨_, .lent (hf := h72) (hd := rfl) (hr := rfl), ?_⟩; simp (maxSteps := 4000000) only [go_sem, g1, hw]) | (refine ⟨_, .given (hf := h43) (hd := rfl) (ha := rfl), ?_⟩; simp (maxSteps := 4000000) only [go_sem, g1, hw]) | (refine ⟨_, .given (hf := h104) (hd := rfl) (ha := rfl), ?_⟩; simp (maxSteps := 4000000) only [go_sem, g1, hw]) | (refine ⟨_, .given (hf := h72) (hd := rfl) (ha := rfl), ?_⟩; simp (maxSteps := 4000000) only [go_sem, g1, hw]))); refine hK _ ?_; clear hK K) | (refine walkL_drawn (by kernel_rfl) (by kernel_rfl) fun K hK => ?_; simp (maxSteps := 4000000) only [go_sem, g1, hw]; (repeat (first | (refine ⟨_, .fn (hf := h43) (hd := rfl) (hr := .inl rfl), ?_⟩; simp (maxSteps := 4000000) only [go_sem, g1, hw]) | (refine ⟨_, .fn (hf := h104) (hd := rfl) (hr := .inl rfl), ?_⟩; simp (maxSteps := 4000000) only [go_sem, g1, hw]) | (refine ⟨_, .fn (hf := h72) (hd := rfl) (hr := .inl rfl), ?_⟩; simp (maxSteps := 4000000) only [go_sem, g1, hw]))); refine ⟨by kernel_rfl, hK _ ?_⟩; clear hK K) | refine walkL_nil ?_ | refine walkL_ret ?_ | refine walkL_exit ?_ | refine blockA_here ?_ | refine blockA_other rfl ?_ | refine blockA_ret ?_ | refine blockA_normal ?_ | refine thenA_ret ?_ | refine thenA_exit ?_ | refine thenA_normal ?_)
           refine ⟨rfl, i + 1, ?_, ⟨hlt, any_take_succ hx hno hw0⟩, by omega⟩
           refine weak_of [] ?_ ?_ rfl rfl <;> simp [lessT, lessM, lessB, AV.less]
           done)
    · have he : i = rules.length := by (have : ¬ i < rules.length := by simpa using hb); omega
      subst he
      rw [List.take_length] at hno
      have e : badRules n rules = decide ((rules.length : Int) > 12) := by unfold badRules; rw [hno, Bool.or_false]
      rw [e]
      cases q : decide ((rules.length : Int) > 12)
      · have q' : decide ((rules.length : Int) ≤ 12) = true := by simp at q ⊢; omega
        repeat (first | refine walkL_true rfl ?_ | refine walkL_false rfl ?_ | refine walkL_seq ?_ | refine walkL_skip ?_ | refine walkL_block ?_ | (refine walkL_region fun K hK => ?_; simp (maxSteps := 4000000) only [go_sem, q', ruleRows_len]; refine hK _ ?_; clear hK K) | refine walkL_nil ?_ | refine walkL_ret ?_ | refine walkL_exit ?_ | refine blockA_here ?_ | refine blockA_other rfl ?_ | refine blockA_ret ?_ | refine blockA_normal ?_ | refine thenA_ret ?_ | refine thenA_exit ?_ | refine thenA_normal ?_)
        simp (maxSteps := 4000000) only [go_sem]
      · have q' : decide ((rules.length : Int) ≤ 12) = false := by simp at q ⊢; omega
        repeat (first | refine walkL_true rfl ?_ | refine walkL_false rfl ?_ | refine walkL_seq ?_ | refine walkL_skip ?_ | refine walkL_block ?_ | (refine walkL_region fun K hK => ?_; simp (maxSteps := 4000000) only [go_sem, q', ruleRows_len]; refine hK _ ?_; clear hK K) | refine walkL_nil ?_ | refine walkL_ret ?_ | refine walkL_exit ?_ | refine blockA_here ?_ | refine blockA_other rfl ?_ | refine blockA_ret ?_ | refine blockA_normal ?_ | refine thenA_ret ?_ | refine thenA_exit ?_ | refine thenA_normal ?_)
        simp (maxSteps := 4000000) only [go_sem]
end Go.Ab
namespace Go.Ab
open Go.RowKit

/-! ### What is handed to a program, as deep values -/

/-- What a cell holds. -/
inductive Sh where
  | int (k : IntKind)
  | bool
  | sl (row : List Sh)

mutual
/-- A value of this form, no slice in it longer than N. -/
def Sh.fits (N : Nat) : Sh → DV → Prop
  | .int k, d => ∃ n, d = .int k n ∧ (Lit.int k n).wf = true
  | .bool, d => ∃ b, d = .bool b
  | .sl r, d => ∃ rows, d = .sl rows ∧ rows.length ≤ N ∧ ∀ row ∈ rows, Sh.fitsL N r row
def Sh.fitsL (N : Nat) : List Sh → List DV → Prop
  | [], ds => ds = []
  | s :: ss, ds => ∃ d r, ds = d :: r ∧ Sh.fits N s d ∧ Sh.fitsL N ss r
end

theorem Sh.fitsL_len {N : Nat} : ∀ {ss : List Sh} {ds : List DV}, Sh.fitsL N ss ds → ds.length = ss.length
  | [], _, h => by simp only [Sh.fitsL] at h; subst h; rfl
  | s :: ss, ds, h => by
    simp only [Sh.fitsL] at h
    obtain ⟨d, r, rfl, _, h⟩ := h
    simp [Sh.fitsL_len h]

theorem Sh.fitsL_append {N : Nat} : ∀ {ss ts : List Sh} {ds es : List DV}, Sh.fitsL N ss ds → Sh.fitsL N ts es → Sh.fitsL N (ss ++ ts) (ds ++ es)
  | [], _, _, _, h, k => by simp only [Sh.fitsL] at h; subst h; simpa using k
  | s :: ss, ts, ds, es, h, k => by
    simp only [Sh.fitsL] at h
    obtain ⟨d, r, rfl, hd, h⟩ := h
    simp only [List.cons_append, Sh.fitsL]
    exact ⟨d, r ++ es, rfl, hd, Sh.fitsL_append h k⟩

/-- The cells of a struct's fields, laid without gaps. -/
def shapesF (P : Program) (g : TypeId → Option (List Sh)) : List Field → Nat → Option (List Sh)
  | [], _ => some []
  | f :: fs, o => if f.offset = o then (g f.type).bind fun r => if P.cellsOf f.type = r.length then (shapesF P g fs (o + r.length)).map fun s => r ++ s else none else none

/-- The cells of a type that is made of integers, bools, slices and structs without gaps. -/
def shapes (P : Program) : Nat → TypeId → Option (List Sh)
  | 0, _ => none
  | n + 1, t => match P.underlying t with
    | some .bool => some [.bool]
    | some (.int k) => some [.int k]
    | some (.slice e) => (shapes P n e).bind fun r => if P.cellsOf e = r.length ∧ 0 < r.length then some [.sl r] else none
    | some (.struct fs) => (shapesF P (shapes P n) fs.toList 0).bind fun r => if P.cellsOf t = r.length then some r else none
    | _ => none

/-- A size of what is read. -/
structure BulkOk {H : Type} (b : DataW H → Nat) : Prop where
  slice : ∀ elems spare, elems.length ≤ b (.slice elems spare)
  elem : ∀ elems spare, ∀ d ∈ elems, b d ≤ b (.slice elems spare)
  part : ∀ parts, ∀ d ∈ parts, b d ≤ b (.agg parts)

/-- Cells that stand for these deep values. -/
def Reads (w : World) (ds : List DV) (cs : List Value) : Prop :=
  ∀ (i : Nat) d v, ds[i]? = some d → cs[i]? = some v → v.oneCell' = true ∧ DRel w (fun _ => False) d v

section
variable {H : Type} {enc : TypeId × Value → H} {P : Program} {w : World} {sp : Nat → Bool} {held : Bool}

theorem readF {b : DataW H → Nat} {N : Nat} {g : TypeId → Option (List Sh)} {m : Nat} {cs : List Value}
    (hg : ∀ (t : TypeId) sh, g t = some sh → ∀ cs d ps, DataW.trod enc P w 0 sp held m t cs = some (d, ps) → b d ≤ N → cs.length = sh.length ∧ ∃ ds, Sh.fitsL N sh ds ∧ Reads w ds cs) :
    ∀ (fs : List Field) (xs : List (DataW H × List MemPlace)) (o : Nat) (sh : List Sh), shapesF P g fs o = some sh → xs.length = fs.length →
      (∀ (i : Nat) (f : Field), fs[i]? = some f → DataW.trod enc P w 0 sp held m f.type ((cs.drop f.offset).take (P.cellsOf f.type)) = xs[i]?) → (∀ x ∈ xs, b x.1 ≤ N) →
      ∃ ds, Sh.fitsL N sh ds ∧ Reads w ds (cs.drop o)
  | [], xs, o, sh, h, hl, _, _ => by
    simp only [shapesF, Option.some.injEq] at h
    subst h
    exact ⟨[], by simp [Sh.fitsL], fun i d v h => by simp at h⟩
  | f :: fs, xs, o, sh, h, hl, hx, hb => by
    simp only [shapesF] at h
    split at h
    case isFalse => cases h
    case isTrue ho =>
    obtain ⟨r, hr, h⟩ := Option.bind_eq_some_iff.1 h
    split at h
    case isFalse => cases h
    case isTrue hc =>
    obtain ⟨s, hs, rfl⟩ := Option.map_eq_some_iff.1 h
    cases xs with
    | nil => simp at hl
    | cons x xs =>
      have h0 := hx 0 f rfl
      rw [List.getElem?_cons_zero] at h0
      obtain ⟨hlen, ds, hf, hd⟩ := hg _ _ hr _ x.1 x.2 h0 (hb x (by simp))
      obtain ⟨es, he, hd'⟩ := readF hg fs xs (o + r.length) s hs (by simpa using hl) (fun i f' hf' => by simpa using hx (i + 1) f' (by simpa using hf')) (fun y hy => hb y (by simp [hy]))
      have hdl := Sh.fitsL_len hf
      refine ⟨ds ++ es, Sh.fitsL_append hf he, fun i d v h1 h2 => ?_⟩
      rw [List.getElem?_drop] at h2
      rcases Nat.lt_or_ge i ds.length with hi | hi
      · rw [List.getElem?_append_left hi] at h1
        refine hd i d v h1 ?_
        rw [List.getElem?_take, List.getElem?_drop, ho, if_pos (by omega), h2]
      · rw [List.getElem?_append_right hi] at h1
        refine hd' (i - ds.length) d v h1 ?_
        rw [List.getElem?_drop]
        rw [show o + r.length + (i - ds.length) = o + i from by omega, h2]

theorem cells_get {w : World} {a : Addr} {n : Nat} {cs : List Value} (h : w.cells? 0 a n = some cs) : cs.length = n ∧ ∀ j, j < n → w.cell? (a.add j) = cs[j]? := by
  simp only [World.cells?, Nat.zero_le, if_true] at h
  exact ⟨by simpa using mapM_some_length h, fun j hj => mapM_some_get h j j (by simp [hj])⟩

theorem cell_spot {w : World} {a : Addr} {v : Value} (h : w.cell? a = some v) : a.spot = none := by
  unfold World.cell? at h
  split at h
  · split at h
    · cases h
    · cases hs : a.spot <;> simp_all
  · cases h

theorem trod_read {b : DataW H → Nat} (hb : BulkOk b) (N : Nat) : ∀ (n : Nat) (t : TypeId) (sh : List Sh), shapes P n t = some sh → ∀ fuel cs d ps, DataW.trod enc P w 0 sp held fuel t cs = some (d, ps) → b d ≤ N →
    cs.length = sh.length ∧ ∃ ds, Sh.fitsL N sh ds ∧ Reads w ds cs
  | 0, _, _, h => by simp [shapes] at h
  | n + 1, t, sh, h => by
    intro fuel cs d ps hd hN
    unfold shapes at h
    split at h
    case h_1 ht =>
      cases h
      obtain ⟨v, rfl, _⟩ := DataW.trod_bool ht hd
      refine ⟨rfl, [.bool v], ?_, ?_⟩
      · simp [Sh.fitsL, Sh.fits]
      · intro i d' v' h1 h2
        cases i with
        | zero => simp only [List.getElem?_cons_zero, Option.some.injEq] at h1 h2; subst h1; subst h2; exact ⟨rfl, .bool _⟩
        | succ i => simp at h1
    case h_2 k ht =>
      cases h
      obtain ⟨v, rfl, _, hw⟩ := DataW.trod_int ht hd
      refine ⟨rfl, [.int k v], ?_, ?_⟩
      · simpa [Sh.fitsL, Sh.fits] using hw
      · intro i d' v' h1 h2
        cases i with
        | zero => simp only [List.getElem?_cons_zero, Option.some.injEq] at h1 h2; subst h1; subst h2; exact ⟨rfl, .int _ _⟩
        | succ i => simp at h1
    case h_3 e ht =>
      obtain ⟨r, hr, h⟩ := Option.bind_eq_some_iff.1 h
      split at h
      case isFalse => cases h
      case isTrue hc =>
      obtain ⟨hc, hp⟩ := hc
      cases h
      rcases DataW.trod_slice ht hd with ⟨rfl, _⟩ | ⟨a, len, cap, elems, rest, m, rfl, rfl, hx, _, hcap, _, hl, hel, _⟩
      · refine ⟨rfl, [.sl []], ?_, ?_⟩
        · simp [Sh.fitsL, Sh.fits]
        · intro i d' v' h1 h2
          cases i with
          | zero => simp only [List.getElem?_cons_zero, Option.some.injEq] at h1 h2; subst h1; subst h2; exact ⟨rfl, .slNil⟩
          | succ i => simp at h1
      · obtain rfl : d = .slice (elems.map (·.1)) (rest.map (·.1)) := congrArg Prod.fst hx
        have hrow : ∀ i : Nat, ∃ ds : List DV, i < len → Sh.fitsL N r ds ∧ ∀ j d, ds[j]? = some d → ∃ v, w.cell? (a.add (i * r.length) |>.add j) = some v ∧ v.oneCell' = true ∧ DRel w (fun _ => False) d v := by
          intro i
          by_cases hi : i < len
          · have h1 := hel i hi
            rw [List.getElem?_eq_getElem (by omega)] at h1
            obtain ⟨cs', hcs, htr⟩ := Option.bind_eq_some_iff.1 h1
            have hin : (elems[i]'(by omega)).1 ∈ elems.map (·.1) := List.mem_map.2 ⟨_, List.getElem_mem _, rfl⟩
            obtain ⟨hlen, ds, hf, hds⟩ := trod_read hb N n e r hr m cs' (elems[i]'(by omega)).1 (elems[i]'(by omega)).2 htr (Nat.le_trans (hb.elem _ _ _ hin) hN)
            refine ⟨ds, fun _ => ⟨hf, fun j d hj => ?_⟩⟩
            have hjl : j < ds.length := by
              rcases Nat.lt_or_ge j ds.length with h | h
              · exact h
              · rw [List.getElem?_eq_none h] at hj; cases hj
            rw [Sh.fitsL_len hf] at hjl
            have hcell := (cells_get hcs).2 j (by omega)
            rw [hc] at hcell
            have hv : cs'[j]? = some (cs'[j]'(by omega)) := List.getElem?_eq_getElem _
            rw [hv] at hcell
            exact ⟨_, hcell, hds j d _ hj hv⟩
          · exact ⟨[], fun h => absurd h hi⟩
        have hcho := Classical.axiomOfChoice hrow
        obtain ⟨F, hF⟩ := hcho
        have hrl : ((List.range len).map F).length = len := by simp
        refine ⟨rfl, [.sl ((List.range len).map F)], ?_, ?_⟩
        · simp only [Sh.fitsL, Sh.fits]
          refine ⟨_, _, rfl, ⟨_, rfl, ?_, ?_⟩, rfl⟩
          · rw [hrl]
            have := hb.slice (elems.map (·.1)) (rest.map (·.1))
            simp only [List.length_map] at this
            omega
          · intro row hrow
            obtain ⟨i, hi, rfl⟩ := List.mem_map.1 hrow
            exact (hF i (by simpa using hi)).1
        · intro i d' v' h1 h2
          cases i with
          | succ i => simp at h1
          | zero =>
            simp only [List.getElem?_cons_zero, Option.some.injEq] at h1 h2
            subst h1; subst h2
            refine ⟨rfl, ?_⟩
            cases hlen : len with
            | zero => exact .slEmpty _ _
            | succ l =>
              have hspot : a.spot = none := by
                have h0 := hF 0 (by omega)
                have hfl := Sh.fitsL_len h0.1
                obtain ⟨v, hv, _⟩ := h0.2 0 ((F 0)[0]'(by omega)) (List.getElem?_eq_getElem _)
                simp only [Nat.zero_mul, Addr.add, if_true] at hv
                exact cell_spot hv
              obtain ⟨blk, off, spot⟩ := a
              simp only at hspot
              subst hspot
              have hadd : ∀ i j, (Addr.add (Addr.add ⟨blk, off, none⟩ (i * r.length)) j) = ⟨blk, off + i * r.length + j, none⟩ := by
                intro i j
                unfold Addr.add
                by_cases h1 : i * r.length = 0 <;> by_cases h2 : j = 0 <;> simp [h1, h2]
              have hall : ∀ (i : Nat) (r' : List DV) (j : Nat) (d : DV), ((List.range len).map F)[i]? = some r' → r'[j]? = some d → ∃ v, w.cell? ⟨blk, off + i * r.length + j, none⟩ = some v ∧ v.oneCell' = true ∧ DRel w (fun _ => False) d v := by
                intro i r' j d h1 h2
                rw [List.getElem?_map] at h1
                obtain ⟨i', hi', rfl⟩ := Option.map_eq_some_iff.1 h1
                obtain ⟨hil, rfl⟩ := List.getElem?_eq_some_iff.1 hi'
                simp only [List.length_range] at hil
                simp only [List.getElem_range] at h2
                obtain ⟨v, hv, h3, h4⟩ := (hF i hil).2 j d h2
                rw [hadd] at hv
                exact ⟨v, hv, h3, h4⟩
              have hfin := DRel.sl (w := w) (own := fun _ => False) ((List.range len).map F) blk off r.length cap (fun i j => (w.cell? ⟨blk, off + i * r.length + j, none⟩).getD .nilFunc) (by rw [hrl]; exact hcap)
                (by
                  intro row hrow
                  obtain ⟨i, hi, rfl⟩ := List.mem_map.1 hrow
                  exact Sh.fitsL_len (hF i (by simpa using hi)).1)
                (by
                  intro i r' j d h1 h2
                  obtain ⟨v, hv, h3, _⟩ := hall i r' j d h1 h2
                  rw [hv]
                  exact ⟨fun h => h, rfl, h3⟩)
                (by
                  intro i r' j d h1 h2
                  obtain ⟨v, hv, _, h4⟩ := hall i r' j d h1 h2
                  simp only [hv, Option.getD_some]
                  exact h4)
              rw [hrl] at hfin
              rw [hlen] at hfin
              exact hfin
    case h_4 fs ht =>
      obtain ⟨r, hr, h⟩ := Option.bind_eq_some_iff.1 h
      split at h
      case isFalse => cases h
      case isTrue hc =>
      cases h
      obtain ⟨xs, m, rfl, hx, hl, hxl, hi⟩ := DataW.trod_struct ht hd
      obtain rfl : d = .agg (xs.map (·.1)) := congrArg Prod.fst hx
      obtain ⟨ds, hf, hds⟩ := readF (fun t sh h cs d ps hd hN => trod_read hb N n t sh h m cs d ps hd hN) fs.toList xs 0 sh hr (by simpa using hxl) (fun i f hf => hi i f (by simpa using hf))
        (fun x hx => Nat.le_trans (hb.part _ _ (List.mem_map.2 ⟨x, hx, rfl⟩)) hN)
      exact ⟨by omega, ds, hf, by simpa using hds⟩
    case h_5 => cases h
end
end Go.Ab
/- The link from a walked contract to a statement's contract, for arguments of any number and of the types that the statements take; where what is read is of bulk at most the bound. -/
namespace Go.Ab
open Go.RowKit Go.Proofs Go.ChangeShapes Go.WideShapes Go.Proofs.YtlcbalngfpgjdaaGreatDoor
set_option linter.unusedVariables false
set_option maxRecDepth 100000

section
variable {H : Type} {enc : TypeId × Value → H} {P : Program}
/-- The world grew, and nothing that was there has turned: the post-condition of a statement that changes nothing. -/
theorem post_of_below {f : Func} {s : ChangeSpec} {apart fresh handsOn again : Bool} {W W' : World} {args : Array Value} {v : Value} {ds gs : List (DataW H)} {before pa pv : List MemPlace}
    (hW : DataW.Whole enc P f.params.toList s.vars apart W args.toList ds gs before)
    (hres : ∀ (b : Nat) (sp : Nat → Bool) (hd : Bool), DataW.TrodAll enc P W' b sp hd f.resultTypes.toList (v.resultList f.resultTypes.size) (s.fn H (ds ++ gs)).results [])
    (hargs : ∀ sp : Nat → Bool, (∀ p ∈ before, sp p.block = true) → DataW.TrodAll enc P W' 0 sp true f.params.toList args.toList (s.fn H (ds ++ gs)).args pa)
    (hvars : ∀ sp : Nat → Bool, (∀ p ∈ before, sp p.block = true) → DataW.TrodVars enc P W' sp s.vars (s.fn H (ds ++ gs)).vars pv)
    (hps : before = pa ++ pv) (hb : Below W.heap.size W W')
    (hok : ∀ (j : Nat) (t : TypeId) (r : Value), f.resultTypes[j]? = some t → (v.resultList f.resultTypes.size)[j]? = some r → Value.okWide P W' .any 0 t r) :
    s.post enc P f apart fresh handsOn again W args v W' := by
  have hlt := hW.lt
  have hold : ∀ p ∈ before, (fun b => decide (b < W.heap.size)) p.block = true := fun p hp => by simpa using hlt p hp
  refine ⟨ds, gs, before, [], pa, pv, hW, hres _ _ _, hargs _ hold, hvars _ hold, World.keptBut_mono (fun p hp => ⟨hp, ?_⟩) (hb.frame (· ∈ before)), fun _ => ?_⟩
  · rw [hps, List.mem_append] at hp
    exact Or.inr hp
  · obtain ⟨_, _, _, _, _, hz, hn⟩ := hW
    refine ⟨hok, _, _, ([] ++ pa) ++ pv, ⟨[] ++ pa, pv, trodAll_append (hargs _ (fun _ _ => rfl)) (hres _ _ _), hvars _ (fun _ _ => rfl), rfl, ?_, ?_⟩, ?_⟩
    · intro b off hp
      have hp' : MemPlace.cell b off ∈ before := by rw [hps]; simpa using hp
      rw [hb.frozen (p := ⟨b, off, none⟩) (hlt _ hp')]
      exact hz b off hp'
    · intro ha
      have := hn ha
      rw [hps] at this
      simpa using this
    · intro p hp _
      rw [hps]
      simpa using hp
end

/-- Rows of this form are rows of values. -/
theorem rows_of {α : Type} {row : α → List DV} {Q : α → Prop} : ∀ {rows : List (List DV)}, (∀ r ∈ rows, ∃ a, r = row a ∧ Q a) → ∃ l : List α, rows = l.map row ∧ ∀ a ∈ l, Q a
  | [], _ => ⟨[], rfl, fun _ h => by cases h⟩
  | r :: rs, h => by
    obtain ⟨a, rfl, ha⟩ := h r (by simp)
    obtain ⟨l, rfl, hl⟩ := rows_of (rows := rs) (fun r hr => h r (by simp [hr]))
    exact ⟨a :: l, rfl, fun b hb => by rcases List.mem_cons.1 hb with rfl | hb; exact ha; exact hl b hb⟩

def iS : Sh := .int .i64
def hourS : List Sh := [iS, iS, iS, iS, iS, iS]
def skyS : List Sh := [iS, iS, iS]
def sightS : List Sh := [iS, iS, iS, iS]
def foreS : List Sh := [.sl [.sl hourS]]
def limS : List Sh := [iS, iS, iS, iS]
def realS : List Sh := [.sl sightS, .sl skyS, iS, iS, iS, iS, iS]
def easeS : List Sh := [iS, iS, iS, iS, iS, iS, iS, iS]

theorem hour_of {N : Nat} {r : List DV} (h : Sh.fitsL N hourS r) : ∃ s : Hour, r = s.row ∧ True := by
  simp only [hourS, iS, Sh.fitsL, Sh.fits] at h
  obtain ⟨_, _, rfl, ⟨a, rfl, _⟩, _, _, rfl, ⟨b, rfl, _⟩, _, _, rfl, ⟨c, rfl, _⟩, _, _, rfl, ⟨d, rfl, _⟩, _, _, rfl, ⟨e, rfl, _⟩, _, _, rfl, ⟨f, rfl, _⟩, rfl⟩ := h
  exact ⟨⟨⟨a, b⟩, ⟨c, d⟩, ⟨e, f⟩⟩, rfl, trivial⟩
theorem sky_of {N : Nat} {r : List DV} (h : Sh.fitsL N skyS r) : ∃ s : Sky, r = s.row ∧ True := by
  simp only [skyS, iS, Sh.fitsL, Sh.fits] at h
  obtain ⟨_, _, rfl, ⟨a, rfl, _⟩, _, _, rfl, ⟨b, rfl, _⟩, _, _, rfl, ⟨c, rfl, _⟩, rfl⟩ := h
  exact ⟨⟨a, b, c⟩, rfl, trivial⟩
theorem sight_of {N : Nat} {r : List DV} (h : Sh.fitsL N sightS r) : ∃ s : Sight, r = s.row ∧ True := by
  simp only [sightS, iS, Sh.fitsL, Sh.fits] at h
  obtain ⟨_, _, rfl, ⟨d, rfl, _⟩, _, _, rfl, ⟨a, rfl, _⟩, _, _, rfl, ⟨b, rfl, _⟩, _, _, rfl, ⟨c, rfl, _⟩, rfl⟩ := h
  exact ⟨⟨d, ⟨a, b, c⟩⟩, rfl, trivial⟩

theorem skies_of {N : Nat} {d : DV} (h : Sh.fits N (.sl skyS) d) : ∃ l : List Sky, d = .sl (skyRows l) ∧ l.length ≤ N := by
  simp only [Sh.fits] at h
  obtain ⟨rows, rfl, hl, hr⟩ := h
  obtain ⟨l, rfl, _⟩ := rows_of (fun r h => sky_of (hr r h))
  exact ⟨l, rfl, by simpa using hl⟩
theorem sights_of {N : Nat} {d : DV} (h : Sh.fits N (.sl sightS) d) : ∃ l : List Sight, d = .sl (sightRows l) ∧ l.length ≤ N := by
  simp only [Sh.fits] at h
  obtain ⟨rows, rfl, hl, hr⟩ := h
  obtain ⟨l, rfl, _⟩ := rows_of (fun r h => sight_of (hr r h))
  exact ⟨l, rfl, by simpa using hl⟩
theorem hours_of {N : Nat} {r : List DV} (h : Sh.fitsL N [.sl hourS] r) : ∃ l : List Hour, r = [.sl (hourRows l)] ∧ l.length ≤ N := by
  simp only [Sh.fitsL] at h
  obtain ⟨d, _, rfl, h, rfl⟩ := h
  simp only [Sh.fits] at h
  obtain ⟨rows, rfl, hl, hr⟩ := h
  obtain ⟨l, rfl, _⟩ := rows_of (fun r h => hour_of (hr r h))
  exact ⟨l, rfl, by simpa using hl⟩
theorem scens_of {N : Nat} {d : DV} (h : Sh.fits N (.sl [.sl hourS]) d) : ∃ F : List (List Hour), d = .sl (scenRows F) ∧ F.length ≤ N ∧ ∀ l ∈ F, l.length ≤ N := by
  simp only [Sh.fits] at h
  obtain ⟨rows, rfl, hl, hr⟩ := h
  obtain ⟨F, rfl, hF⟩ := rows_of (row := fun l : List Hour => [DV.sl (hourRows l)]) (fun r h => hours_of (hr r h))
  exact ⟨F, rfl, by simpa using hl, hF⟩


theorem real_of {N : Nat} (hN : N < 2 ^ 30) {r : List DV} (h : Sh.fitsL N realS r) : ∃ x : RealX, r = x.cells ∧ x.seen.length < 2 ^ 30 ∧ x.skies.length < 2 ^ 30 := by
  unfold realS at h
  rw [Sh.fitsL] at h
  obtain ⟨x0, _, rfl, h0, h⟩ := h
  rw [Sh.fitsL] at h
  obtain ⟨x1, _, rfl, h1, h⟩ := h
  obtain ⟨S, rfl, s1⟩ := sights_of h0
  obtain ⟨K, rfl, k1⟩ := skies_of h1
  simp only [iS, Sh.fitsL, Sh.fits] at h
  obtain ⟨_, _, rfl, ⟨a, rfl, _⟩, _, _, rfl, ⟨b, rfl, _⟩, _, _, rfl, ⟨c, rfl, _⟩, _, _, rfl, ⟨d, rfl, _⟩, _, _, rfl, ⟨e, rfl, _⟩, rfl⟩ := h
  exact ⟨⟨S, K, ⟨a, b, ⟨c, d⟩⟩, e⟩, rfl, by show S.length < _; omega, by show K.length < _; omega⟩
def spanS : List Sh := [iS, iS]
def ruleS : List Sh := [iS, iS, iS, iS, iS, iS]
def pathS : List Sh := [iS, iS, iS, iS, iS, iS, iS, .sl spanS]
def ruledS : List Sh := [iS, .sl pathS, .sl ruleS, iS]
def queryS : List Sh := [iS, iS, iS, iS, iS, iS]
def walkS : List Sh := [.sl sightS, iS, iS, iS, iS, iS, iS, iS, iS, iS, iS, iS, iS, iS, iS]
theorem span_of {N : Nat} {r : List DV} (h : Sh.fitsL N spanS r) : ∃ s : Span, r = s.row ∧ True := by
  simp only [spanS, iS, Sh.fitsL, Sh.fits] at h
  obtain ⟨_, _, rfl, ⟨a, rfl, _⟩, _, _, rfl, ⟨b, rfl, _⟩, rfl⟩ := h
  exact ⟨⟨a, b⟩, rfl, trivial⟩
theorem spans_of {N : Nat} {d : DV} (h : Sh.fits N (.sl spanS) d) : ∃ l : List Span, d = .sl (spanRows l) ∧ l.length ≤ N := by
  simp only [Sh.fits] at h
  obtain ⟨rows, rfl, hl, hr⟩ := h
  obtain ⟨l, rfl, _⟩ := rows_of (fun r h => span_of (hr r h))
  exact ⟨l, rfl, by simpa using hl⟩
theorem rule_of {N : Nat} {r : List DV} (h : Sh.fitsL N ruleS r) : ∃ s : Rule, r = s.row ∧ True := by
  simp only [ruleS, iS, Sh.fitsL, Sh.fits] at h
  obtain ⟨_, _, rfl, ⟨a, rfl, _⟩, _, _, rfl, ⟨b, rfl, _⟩, _, _, rfl, ⟨c, rfl, _⟩, _, _, rfl, ⟨d, rfl, _⟩, _, _, rfl, ⟨e, rfl, _⟩, _, _, rfl, ⟨f, rfl, _⟩, rfl⟩ := h
  exact ⟨⟨a, b, ⟨c, d, ⟨e, f⟩⟩⟩, rfl, trivial⟩
theorem rules_of {N : Nat} {d : DV} (h : Sh.fits N (.sl ruleS) d) : ∃ l : List Rule, d = .sl (ruleRows l) ∧ l.length ≤ N := by
  simp only [Sh.fits] at h
  obtain ⟨rows, rfl, hl, hr⟩ := h
  obtain ⟨l, rfl, _⟩ := rows_of (fun r h => rule_of (hr r h))
  exact ⟨l, rfl, by simpa using hl⟩
theorem path_of {N : Nat} {r : List DV} (h : Sh.fitsL N pathS r) : ∃ p : Path, r = p.row ∧ p.opens.length ≤ N := by
  simp only [pathS, iS] at h
  simp only [Sh.fitsL] at h
  obtain ⟨_, _, rfl, h0, _, _, rfl, h1, _, _, rfl, h2, _, _, rfl, h3, _, _, rfl, h4, _, _, rfl, h5, _, _, rfl, h6, x, _, rfl, h7, rfl⟩ := h
  obtain ⟨o, rfl, ho⟩ := spans_of h7
  simp only [Sh.fits] at h0 h1 h2 h3 h4 h5 h6
  obtain ⟨a, rfl, _⟩ := h0
  obtain ⟨b, rfl, _⟩ := h1
  obtain ⟨c, rfl, _⟩ := h2
  obtain ⟨d, rfl, _⟩ := h3
  obtain ⟨e, rfl, _⟩ := h4
  obtain ⟨f, rfl, _⟩ := h5
  obtain ⟨g, rfl, _⟩ := h6
  exact ⟨⟨a, b, c, ⟨d, e⟩, ⟨f, g⟩, o⟩, rfl, ho⟩
theorem paths_of {N : Nat} {d : DV} (h : Sh.fits N (.sl pathS) d) : ∃ l : List Path, d = .sl (pathRows l) ∧ l.length ≤ N ∧ ∀ p ∈ l, p.opens.length ≤ N := by
  simp only [Sh.fits] at h
  obtain ⟨rows, rfl, hl, hr⟩ := h
  obtain ⟨l, rfl, hq⟩ := rows_of (row := Path.row) (fun r h => path_of (hr r h))
  exact ⟨l, rfl, by simpa using hl, hq⟩
theorem ruled_of {N : Nat} (hN : N < 2 ^ 30) {r : List DV} (h : Sh.fitsL N ruledS r) : ∃ u : RuledX, r = u.cells ∧ u.net.Small ∧ u.rules.length < 2 ^ 30 := by
  simp only [ruledS, iS] at h
  simp only [Sh.fitsL] at h
  obtain ⟨_, _, rfl, h0, _, _, rfl, h1, _, _, rfl, h2, _, _, rfl, h3, rfl⟩ := h
  obtain ⟨P, rfl, p1, p2⟩ := paths_of h1
  obtain ⟨R, rfl, r1⟩ := rules_of h2
  simp only [Sh.fits] at h0 h3
  obtain ⟨a, rfl, _⟩ := h0
  obtain ⟨b, rfl, _⟩ := h3
  exact ⟨⟨⟨a, P⟩, R, b⟩, rfl, ⟨by show P.length < _; omega, fun x hx => by have := p2 x hx; omega⟩, by show R.length < _; omega⟩
theorem ruledSh : shapes Tryz.prog 20 31 = some ruledS := by kernel_rfl
theorem fore_of {N : Nat} (hN : N < 2 ^ 30) {r : List DV} (h : Sh.fitsL N foreS r) : ∃ F : List (List Hour), r = [.sl (scenRows F)] ∧ ForeSmall F := by
  unfold foreS at h
  rw [Sh.fitsL] at h
  obtain ⟨x0, _, rfl, h0, h⟩ := h
  rw [Sh.fitsL] at h
  subst h
  obtain ⟨F, rfl, f1, f2⟩ := scens_of h0
  exact ⟨F, rfl, ⟨by omega, fun l hl => by have := f2 l hl; omega⟩⟩

theorem foreSh : shapes Tryz.prog 20 24 = some foreS := by kernel_rfl
theorem realSh : shapes Tryz.prog 20 52 = some realS := by kernel_rfl
theorem bulk_mem {H : Type} : ∀ {l : List (DataW H)} {d : DataW H}, d ∈ l → Rows.uptoBulk d ≤ Rows.uptoBulkAll l
  | x :: r, d, h => by
    simp only [Rows.uptoBulkAll]
    rcases List.mem_cons.1 h with rfl | h
    · omega
    · have := bulk_mem h
      omega

theorem bulk_pos {H : Type} (d : DataW H) : 1 ≤ Rows.uptoBulk d := by
  cases d with
  | lit l => cases l <;> simp [Rows.uptoBulk]
  | _ => simp [Rows.uptoBulk]

theorem bulk_len {H : Type} : ∀ (l : List (DataW H)), l.length ≤ Rows.uptoBulkAll l
  | [] => by simp
  | x :: r => by
    have h1 := bulk_pos x
    have h2 := bulk_len r
    simp only [Rows.uptoBulkAll, List.length_cons]
    omega

theorem bulkOk {H : Type} : BulkOk (Rows.uptoBulk (H := H)) where
  slice := fun elems spare => by
    have := bulk_len elems
    simp only [Rows.uptoBulk]
    omega
  elem := fun elems spare d hd => by
    have := bulk_mem hd
    simp only [Rows.uptoBulk]
    omega
  part := fun parts d hd => by
    have := bulk_mem hd
    simp only [Rows.uptoBulk]
    omega

/-- What a statement's argument of a type reads as. -/
structure Rd (t : TypeId) (C : DV → Prop) : Prop where
  rec' : Tryz.prog.readableRec t = true
  lt : t < Tryz.prog.types.size
  read : ∀ (H : Type) (enc : TypeId × Value → H) (w : World) (base : Nat) (v : Value) (d : DataW H) (ps : List MemPlace), Value.okWide Tryz.prog w .any base t v → DataW.Trod enc Tryz.prog w 0 (fun _ => true) true t v d ps → Rows.uptoBulk d ≤ 1048576 → ∃ x, C x ∧ DRel w (fun _ => False) x v

theorem agg_read1 {H : Type} {enc : TypeId × Value → H} {w : World} {t : TypeId} {sh : List Sh} {fs : Array Field} {base : Nat} (ht : Tryz.prog.underlying t = some (.struct fs)) (hs : shapes Tryz.prog 20 t = some sh) {v : Value} {d : DataW H} {ps : List MemPlace}
    (hok : Value.okWide Tryz.prog w .any base t v) (h : DataW.Trod enc Tryz.prog w 0 (fun _ => true) true t v d ps) (hd : Rows.uptoBulk d ≤ 1048576) :
    ∃ ds, Sh.fitsL 1048576 sh ds ∧ DRel w (fun _ => False) (.agg ds) v := by
  obtain ⟨cs, rfl, hsz⟩ := okWide_struct ht hok
  obtain ⟨fuel, h⟩ := h
  obtain ⟨hl, ds, hf, hr⟩ := trod_read bulkOk 1048576 20 t sh hs fuel _ _ _ h hd
  have hdl := Sh.fitsL_len hf
  refine ⟨ds, hf, ?_⟩
  simp only [Value.cells] at hl hr
  exact .agg _ _ (by simpa [hdl] using hl.symm) fun i d v h1 h2 => (hr i d v h1 (by simpa using h2)).2

theorem rdFore : Rd 24 (fun x => ∃ F : List (List Hour), x = .agg [.sl (scenRows F)] ∧ ForeSmall F) :=
  ⟨by kernel_rfl, of_decide_eq_true (by kernel_rfl), fun H enc w base v d ps hok h hd => by
    obtain ⟨ds, hf, hr⟩ := agg_read1 Tryz.underlying24 foreSh hok h hd
    obtain ⟨F, rfl, hF⟩ := fore_of (by decide) hf
    exact ⟨_, ⟨F, rfl, hF⟩, hr⟩⟩
theorem rdReal : Rd 52 (fun x => ∃ r : RealX, x = .agg r.cells ∧ r.seen.length < 2 ^ 30 ∧ r.skies.length < 2 ^ 30) :=
  ⟨by kernel_rfl, of_decide_eq_true (by kernel_rfl), fun H enc w base v d ps hok h hd => by
    obtain ⟨ds, hf, hr⟩ := agg_read1 Tryz.underlying52 realSh hok h hd
    obtain ⟨r, rfl, hr'⟩ := real_of (by decide) hf
    exact ⟨_, ⟨r, rfl, hr'⟩, hr⟩⟩
theorem rdRuled : Rd 31 (fun x => ∃ u : RuledX, x = .agg u.cells ∧ u.net.Small ∧ u.rules.length < 2 ^ 30) :=
  ⟨by kernel_rfl, of_decide_eq_true (by kernel_rfl), fun H enc w base v d ps hok h hd => by
    obtain ⟨ds, hf, hr⟩ := agg_read1 Tryz.underlying31 ruledSh hok h hd
    obtain ⟨r, rfl, hr'⟩ := ruled_of (by decide) hf
    exact ⟨_, ⟨r, rfl, hr'⟩, hr⟩⟩
abbrev aX : TypeId × (DV → Prop) := (31, fun x => ∃ u : RuledX, x = .agg u.cells ∧ u.net.Small ∧ u.rules.length < 2 ^ 30)
abbrev aQ : TypeId × (DV → Prop) := (61, fun x => ∃ q : QueryX, x = .agg q.cells)
abbrev aK : TypeId × (DV → Prop) := (77, fun x => ∃ k : WalkX, x = .agg k.cells ∧ k.seen.length < 2 ^ 30)

/-! ### The one package variable -/

def wideLaid : List (String × DataW Unit) := [("bivouac/weather.wide", .agg [.agg [.lit (.int .i64 200), .lit (.int .i64 100), .agg [.lit (.int .i64 (-50)), .lit (.int .i64 50)]]])]
theorem gWide : Tryz.prog.globalNamed "bivouac/weather.wide" = some 0 := by kernel_rfl
theorem tWide : (Tryz.prog.globals[0]?).map (·.type) = some 124 := by kernel_rfl

theorem hid_of {W : World} (h : laidMetH Tryz.prog wideLaid W) : Hid Tryz.prog W (fun _ => False) := by
  intro _
  rw [MakeChecks.laidMetH_plain _ _ _ (by kernel_rfl)] at h
  obtain ⟨ps, ⟨g0, t0, cs0, f0, p0, q0, hg0, ht0, hv0, hd0, _, _⟩, _, _⟩ := h
  obtain rfl := Option.some.inj (gWide.symm.trans hg0)
  obtain rfl := Option.some.inj (tWide.symm.trans ht0)
  have c106 : Tryz.prog.cellsOf 124 = 4 := by kernel_rfl
  have c30 : Tryz.prog.cellsOf 50 = 4 := by kernel_rfl
  have c28 : Tryz.prog.cellsOf 48 = 2 := by kernel_rfl
  have c3 : Tryz.prog.cellsOf 3 = 1 := by kernel_rfl
  obtain ⟨y0, n0, e0, hl, h1⟩ := Go.ChangeShapes.trod_struct1 Tryz.underlying124 hd0
  obtain ⟨a0, a1, a2, n1, e1, _, k0, k1, k2⟩ := Deep.trod_struct3 Tryz.underlying50 h1
  obtain ⟨b0, b1, n2, e2, _, k3, k4⟩ := Go.ChangeShapes.trod_struct2 Tryz.underlying48 k2
  obtain ⟨i0, q0', r0, _⟩ := DataW.trod_int Tryz.underlying3 k0
  obtain ⟨i1, q1', r1, _⟩ := DataW.trod_int Tryz.underlying3 k1
  obtain ⟨i2, q2', r2, _⟩ := DataW.trod_int Tryz.underlying3 k3
  obtain ⟨i3, q3', r3, _⟩ := DataW.trod_int Tryz.underlying3 k4
  simp only [c106, c30, c28, c3] at hl q0' q1' q2' q3'
  subst r0 r1 r2 r3
  subst e2
  subst e1
  simp only [Prod.mk.injEq, DataW.agg.injEq, List.cons.injEq, and_true, DataW.lit.injEq, Lit.int.injEq, true_and] at e0
  obtain ⟨l0⟩ := cs0
  match l0, hl with
  | [v0, v1, v2, v3], _ =>
    simp at q0' q1' q2' q3'
    subst q0' q1' q2' q3'
    have hc := fun i => World.var?_cell hg0 hv0 i
    obtain ⟨rfl, rfl, rfl, rfl⟩ := e0.1
    refine .ptr [.i 200, .i 100, .i (-50), .i 50] 0 0 0 (fun j => if j = 0 then .int .i64 200 else if j = 1 then .int .i64 100 else if j = 2 then .int .i64 (-50) else .int .i64 50) (fun j d hj => ⟨id, ?_, ?_⟩) (fun j d hj => ?_)
    · have := hc j
      match j, hj with
      | 0, _ => simpa using this
      | 1, _ => simpa using this
      | 2, _ => simpa using this
      | 3, _ => simpa using this
    · match j, hj with
      | 0, _ => rfl
      | 1, _ => rfl
      | 2, _ => rfl
      | 3, _ => rfl
    · match j, hj with
      | 0, hj => cases hj; exact .int ..
      | 1, hj => cases hj; exact .int ..
      | 2, hj => cases hj; exact .int ..
      | 3, hj => cases hj; exact .int ..
/-- Deep values that are as asked, one by one. -/
def AllC : List (TypeId × (DV → Prop)) → List DV → Prop
  | [], [] => True
  | c :: cs, x :: xs => c.2 x ∧ AllC cs xs
  | _, _ => False

section
variable {H : Type} {enc : TypeId × Value → H} {W : World}
theorem read_all {base : Nat} : ∀ (L : List (TypeId × (DV → Prop))), (∀ c ∈ L, Rd c.1 c.2) → ∀ (vs : List Value) (ds : List (DataW H)) (ps : List MemPlace),
    (∀ (j : Nat) t v, (L.map (·.1))[j]? = some t → vs[j]? = some v → Value.okWide Tryz.prog W .any base t v) →
    DataW.TrodAll enc Tryz.prog W 0 (fun _ => true) true (L.map (·.1)) vs ds ps → Rows.uptoBulkAll ds ≤ 1048576 →
    vs.length = L.length ∧ ds.length = L.length ∧ ∃ xs, AllC L xs ∧ xs.length = L.length ∧ ∀ (i : Nat) x v, xs[i]? = some x → vs[i]? = some v → DRel W (fun _ => False) x v
  | [], _, vs, ds, ps, _, h, _ => by
    obtain ⟨rfl, rfl, rfl⟩ := trodAll_nil h
    exact ⟨rfl, rfl, [], trivial, rfl, fun i x v h => by simp at h⟩
  | c :: L, hc, vs, ds, ps, hval, h, hb => by
    obtain ⟨v, vs', d, ds', p, q, rfl, rfl, rfl, hd, hrest⟩ := trodAll_cons h
    simp only [Rows.uptoBulkAll] at hb
    obtain ⟨x, hx, hr⟩ := (hc c (by simp)).read H enc W base v d p (hval 0 _ v (by simp) (by simp)) hd (by omega)
    obtain ⟨h1, h2, xs, h3, h4, h5⟩ := read_all L (fun c h => hc c (by simp [h])) vs' ds' q (fun j t v h1 h2 => hval (j + 1) t v (by simpa using h1) (by simpa using h2)) hrest (by omega)
    refine ⟨by simp [h1], by simp [h2], x :: xs, ⟨hx, h3⟩, by simp [h4], fun i y w hy hw => ?_⟩
    cases i with
    | zero =>
      simp at hy hw
      subst hy
      subst hw
      exact hr
    | succ i => exact h5 i y w (by simpa using hy) (by simpa using hw)

theorem stay_all {W' : World} {sp : Nat → Bool} : ∀ (L : List (TypeId × (DV → Prop))), (∀ c ∈ L, Rd c.1 c.2) → ∀ (vs : List Value) (ds : List (DataW H)) (ps : List MemPlace),
    DataW.TrodAll enc Tryz.prog W 0 (fun _ => true) true (L.map (·.1)) vs ds ps → (∀ y ∈ ps, y.block < W.heap.size) → Below W.heap.size W W' → (∀ y ∈ ps, sp y.block = true) →
    DataW.TrodAll enc Tryz.prog W' 0 sp true (L.map (·.1)) vs ds ps
  | [], _, vs, ds, ps, h, _, _, _ => by
    obtain ⟨rfl, rfl, rfl⟩ := trodAll_nil h
    exact trodAll_mk0
  | c :: L, hc, vs, ds, ps, h, hlt, hb, hsp => by
    obtain ⟨v, vs', d, ds', p, q, rfl, rfl, rfl, hd, hrest⟩ := trodAll_cons h
    have hrd := hc c (by simp)
    exact ⟨p, q, WideElems.Trod_stays (by kernel_rfl) hrd.rec' hrd.lt hd (fun y hy => hb.same (hlt y (by simp [hy]))) (fun y hy => hsp y (by simp [hy])),
      stay_all L (fun c h => hc c (by simp [h])) vs' ds' q hrest (fun y hy => hlt y (by simp [hy])) hb (fun y hy => hsp y (by simp [hy])), rfl⟩
end

/-- A contract of the walk gives a statement's contract. -/
theorem link {f : FuncId} {fn : Func} (L : List (TypeId × (DV → Prop))) (hL : ∀ c ∈ L, Rd c.1 c.2) (hf : ∀ xs, AllC L xs → Fn Tryz.prog f xs (.bool true)) (hfn : fn.params = (L.map (·.1)).toArray) (hr : fn.resultTypes = #[4])
    (s : ChangeSpec) (hv : s.vars = []) (hs : ∀ (H : Type) (ds : List (DataW H)), ds.length = L.length → s.fn H ds = { results := [.lit (.bool true)], args := ds })
    {H : Type} {enc : TypeId × Value → H} {W : World} {args : Array Value} {ds gs : List (DataW H)} {before : List MemPlace}
    {base : Nat} (hval : ∀ (j : Nat) t v, fn.params[j]? = some t → args[j]? = some v → Value.okWide Tryz.prog W .any base t v)
    (hW : DataW.Whole enc Tryz.prog fn.params.toList s.vars false W args.toList ds gs before) (hk : Rows.uptoSmall H (ds ++ gs) = true) (hX : laidMetH Tryz.prog wideLaid W) :
    Calls Tryz.prog f args W fun e W' => ∃ v, e = .returned v ∧ s.post enc Tryz.prog fn false true false false W args v W' := by
  have hW' := hW
  obtain ⟨p, q, hA, hV, rfl, hfz, hnd⟩ := hW
  rw [hfn] at hA
  rw [hv] at hV
  obtain ⟨rfl, rfl⟩ := trodVars_none hV
  have hb := of_decide_eq_true hk
  simp only [List.append_nil] at hb
  obtain ⟨l1, l2, xs, hxs, l3, hrel⟩ := read_all (base := base) L hL _ _ _ (fun j t v h1 h2 => hval j t v (by rw [hfn]; simpa using h1) (by simpa using h2)) hA hb
  have hc := (hf xs hxs).2 W (fun _ => False) args (fun _ h => h.elim) (hid_of hX) ⟨by rw [l3, ← l1]; simp, fun i x v h1 h2 => hrel i x v h1 (by simpa using h2)⟩
  refine hc.mono fun e W' h => ?_
  obtain ⟨v, rfl, hvr, hbel⟩ := h
  cases hvr
  refine ⟨_, rfl, ?_⟩
  have hlt : ∀ y ∈ p, y.block < W.heap.size := fun y hy => hW'.lt y (by simpa using hy)
  have hok : Value.okWide Tryz.prog W' .any 0 4 (.bool true) := okWide_bool_mk (t := 4) Tryz.underlying4 true
  have hsf : s.fn H (ds ++ []) = { results := [.lit (.bool true)], args := ds } := by rw [List.append_nil]; exact hs H ds l2
  refine post_of_below (pa := p) (pv := []) hW' ?_ ?_ ?_ (by simp) hbel ?_
  · intro b sp hd
    rw [hr, hsf]
    exact trodAll_mk1 (shut_bool Tryz.underlying4 _)
  · intro sp hsp
    rw [hfn, hsf]
    exact stay_all L hL _ _ _ hA hlt hbel (fun y hy => hsp y (by simpa using hy))
  · intro sp hsp
    rw [hv, hsf]
    rfl
  · exact ok_one hr rfl hok

abbrev aF : TypeId × (DV → Prop) := (24, fun x => ∃ F : List (List Hour), x = .agg [.sl (scenRows F)] ∧ ForeSmall F)
abbrev aS : TypeId × (DV → Prop) := (25, fun x => ∃ l : List Sight, x = .sl (sightRows l) ∧ l.length < 2 ^ 30)
abbrev aR : TypeId × (DV → Prop) := (52, fun x => ∃ r : RealX, x = .agg r.cells ∧ r.seen.length < 2 ^ 30 ∧ r.skies.length < 2 ^ 30)
abbrev aE : TypeId × (DV → Prop) := (73, fun x => ∃ r : EaseX, x = .agg r.cells)
abbrev aI : TypeId × (DV → Prop) := (3, fun x => ∃ n : Int, x = .i n)
theorem allC3 {c d e : TypeId × (DV → Prop)} {xs : List DV} (h : AllC [c, d, e] xs) : ∃ x y z, xs = [x, y, z] ∧ c.2 x ∧ d.2 y ∧ e.2 z := by
  match xs, h with
  | [x, y, z], h => exact ⟨x, y, z, rfl, h.1, h.2.1, h.2.2.1⟩

end Go.Ab
namespace Go.Ab
open Go.RowKit Go.Proofs
set_option maxHeartbeats 8000000
set_option maxRecDepth 20000
attribute [local irreducible] WalkL Walk

/-- The error of a net, rules, a forecast and observations, and what is as told or not. -/
def crE (n : Net) (rules : List Rule) (F : List (List Hour)) (seen : List Sight) (t : Bool) : Int :=
  if foreF F ≠ 0 then foreF F else if checkF n ≠ 0 then checkF n else lookF F seen (if badRules n rules then 53 else 0) t
theorem ruledE_cr (n : Net) (rules : List Rule) (F : List (List Hour)) (seen : List Sight) (p : Int) : ruledE n rules F seen p = crE n rules F seen (withinB p (-1) ((n.paths.length : Int) - 1)) := rfl

theorem f19 (n : Net) (rules : List Rule) (F : List (List Hour)) (seen : List Sight) (t : Bool) (hn : n.Small) (hr : rules.length < 2 ^ 30) (hs : ForeSmall F) (hsl : seen.length < 2 ^ 30) :
    Fn Tryz.prog 19 [.agg n.cells, .sl (ruleRows rules), .agg [.sl (scenRows F)], .sl (sightRows seen), .bool t] (.i (crE n rules F seen t)) := by
  have h35 := f35 F hs
  have h42 := f42 n hn
  have h54 := f54 F seen hs hsl
  have h56 := f56 n rules hn hr
  rw [Net.cells_eq] at h42 h56
  unfold foreF at h35
  unfold crE foreF
  cases hb : badF F
  · rw [hb] at h35
    simp only [Bool.false_eq_true, if_false] at h35
    simp only [Bool.false_eq_true, if_false, ne_eq, not_true_eq_false]
    obtain ⟨c, hc⟩ : ∃ c, c = checkF n := ⟨_, rfl⟩
    rw [← hc] at h42 ⊢
    by_cases hc0 : c = 0
    · have zc : (c != 0) = false := by simp [hc0]
      rw [if_neg (by simp [hc0])]
      unfold lookF
      unfold seenF at h54
      rw [hb] at h54 ⊢
      simp only [Bool.false_eq_true, if_false] at h54 ⊢
      cases hq : sightsB (hd0 F).length seen
      · rw [hq] at h54
        simp only [Bool.false_eq_true, if_false] at h54 ⊢
        refine fn_walk 38 Tryz.call19 Tryz.func19 rfl (by decide) fun J => ?_
        simp (maxSteps := 4000000) only [go_sem, St.start, Tryz.ntmps19, Tryz.results19, Net.cells_eq]
        repeat (first | refine walkL_true rfl ?_ | refine walkL_false rfl ?_ | refine walkL_seq ?_ | refine walkL_skip ?_ | refine walkL_block ?_ | (refine walkL_region fun K hK => ?_; simp (maxSteps := 4000000) only [go_sem, zc]; (repeat (first | (refine ⟨_, .lent (hf := h35) (hd := rfl) (hr := rfl), ?_⟩; simp (maxSteps := 4000000) only [go_sem, zc]) | (refine ⟨_, .lent (hf := h42) (hd := rfl) (hr := rfl), ?_⟩; simp (maxSteps := 4000000) only [go_sem, zc]) | (refine ⟨_, .lent (hf := h54) (hd := rfl) (hr := rfl), ?_⟩; simp (maxSteps := 4000000) only [go_sem, zc]) | (refine ⟨_, .given (hf := h35) (hd := rfl) (ha := rfl), ?_⟩; simp (maxSteps := 4000000) only [go_sem, zc]) | (refine ⟨_, .given (hf := h42) (hd := rfl) (ha := rfl), ?_⟩; simp (maxSteps := 4000000) only [go_sem, zc]) | (refine ⟨_, .given (hf := h54) (hd := rfl) (ha := rfl), ?_⟩; simp (maxSteps := 4000000) only [go_sem, zc]))); refine hK _ ?_; clear hK K) | refine walkL_nil ?_ | refine walkL_ret ?_ | refine walkL_exit ?_ | refine blockA_here ?_ | refine blockA_other rfl ?_ | refine blockA_ret ?_ | refine blockA_normal ?_ | refine thenA_ret ?_ | refine thenA_exit ?_ | refine thenA_normal ?_)
        simp (maxSteps := 4000000) only [go_sem]
      · rw [hq] at h54
        simp only [if_true] at h54 ⊢
        cases hbr : badRules n rules
        · rw [hbr] at h56
          simp only [Bool.false_eq_true, if_false, if_true]
          cases t
          · simp only [Bool.false_eq_true, if_false]
            refine fn_walk 38 Tryz.call19 Tryz.func19 rfl (by decide) fun J => ?_
            simp (maxSteps := 4000000) only [go_sem, St.start, Tryz.ntmps19, Tryz.results19, Net.cells_eq]
            repeat (first | refine walkL_true rfl ?_ | refine walkL_false rfl ?_ | refine walkL_seq ?_ | refine walkL_skip ?_ | refine walkL_block ?_ | (refine walkL_region fun K hK => ?_; simp (maxSteps := 4000000) only [go_sem, zc]; (repeat (first | (refine ⟨_, .lent (hf := h35) (hd := rfl) (hr := rfl), ?_⟩; simp (maxSteps := 4000000) only [go_sem, zc]) | (refine ⟨_, .lent (hf := h42) (hd := rfl) (hr := rfl), ?_⟩; simp (maxSteps := 4000000) only [go_sem, zc]) | (refine ⟨_, .lent (hf := h54) (hd := rfl) (hr := rfl), ?_⟩; simp (maxSteps := 4000000) only [go_sem, zc]) | (refine ⟨_, .lent (hf := h56) (hd := rfl) (hr := rfl), ?_⟩; simp (maxSteps := 4000000) only [go_sem, zc]) | (refine ⟨_, .given (hf := h35) (hd := rfl) (ha := rfl), ?_⟩; simp (maxSteps := 4000000) only [go_sem, zc]) | (refine ⟨_, .given (hf := h42) (hd := rfl) (ha := rfl), ?_⟩; simp (maxSteps := 4000000) only [go_sem, zc]) | (refine ⟨_, .given (hf := h54) (hd := rfl) (ha := rfl), ?_⟩; simp (maxSteps := 4000000) only [go_sem, zc]) | (refine ⟨_, .given (hf := h56) (hd := rfl) (ha := rfl), ?_⟩; simp (maxSteps := 4000000) only [go_sem, zc]))); refine hK _ ?_; clear hK K) | refine walkL_nil ?_ | refine walkL_ret ?_ | refine walkL_exit ?_ | refine blockA_here ?_ | refine blockA_other rfl ?_ | refine blockA_ret ?_ | refine blockA_normal ?_ | refine thenA_ret ?_ | refine thenA_exit ?_ | refine thenA_normal ?_)
            simp (maxSteps := 4000000) only [go_sem]
          · simp only [if_true]
            have h57 := f57 F seen (fore_iff.1 hb) hq
            cases hp : possL F seen with
            | nil =>
              have e0 : intRows (numsOf []) = [] := rfl
              rw [hp, e0] at h57
              simp only [List.isEmpty_nil, if_true]
              refine fn_walk 38 Tryz.call19 Tryz.func19 rfl (by decide) fun J => ?_
              simp (maxSteps := 4000000) only [go_sem, St.start, Tryz.ntmps19, Tryz.results19, Net.cells_eq]
              repeat (first | refine walkL_true rfl ?_ | refine walkL_false rfl ?_ | refine walkL_seq ?_ | refine walkL_skip ?_ | refine walkL_block ?_ | (refine walkL_region fun K hK => ?_; simp (maxSteps := 4000000) only [go_sem, zc]; (repeat (first | (refine ⟨_, .lent (hf := h35) (hd := rfl) (hr := rfl), ?_⟩; simp (maxSteps := 4000000) only [go_sem, zc]) | (refine ⟨_, .lent (hf := h42) (hd := rfl) (hr := rfl), ?_⟩; simp (maxSteps := 4000000) only [go_sem, zc]) | (refine ⟨_, .lent (hf := h54) (hd := rfl) (hr := rfl), ?_⟩; simp (maxSteps := 4000000) only [go_sem, zc]) | (refine ⟨_, .lent (hf := h56) (hd := rfl) (hr := rfl), ?_⟩; simp (maxSteps := 4000000) only [go_sem, zc]) | (refine ⟨_, .lent (hf := h57) (hd := rfl) (hr := rfl), ?_⟩; simp (maxSteps := 4000000) only [go_sem, zc]) | (refine ⟨_, .given (hf := h35) (hd := rfl) (ha := rfl), ?_⟩; simp (maxSteps := 4000000) only [go_sem, zc]) | (refine ⟨_, .given (hf := h42) (hd := rfl) (ha := rfl), ?_⟩; simp (maxSteps := 4000000) only [go_sem, zc]) | (refine ⟨_, .given (hf := h54) (hd := rfl) (ha := rfl), ?_⟩; simp (maxSteps := 4000000) only [go_sem, zc]) | (refine ⟨_, .given (hf := h56) (hd := rfl) (ha := rfl), ?_⟩; simp (maxSteps := 4000000) only [go_sem, zc]) | (refine ⟨_, .given (hf := h57) (hd := rfl) (ha := rfl), ?_⟩; simp (maxSteps := 4000000) only [go_sem, zc]))); refine hK _ ?_; clear hK K) | refine walkL_nil ?_ | refine walkL_ret ?_ | refine walkL_exit ?_ | refine blockA_here ?_ | refine blockA_other rfl ?_ | refine blockA_ret ?_ | refine blockA_normal ?_ | refine thenA_ret ?_ | refine thenA_exit ?_ | refine thenA_normal ?_)
              simp (maxSteps := 4000000) only [go_sem]
            | cons a l =>
              have hnl : ((numsOf (a :: l)).length : Int) = (l.length : Int) + 1 := by simp [numsOf]
              have hz : (((numsOf (a :: l)).length : Int) == 0) = false := by
                have : ¬ ((numsOf (a :: l)).length : Int) = 0 := by omega
                simpa using this
              rw [hp] at h57
              obtain ⟨L, hL⟩ : ∃ L, L = numsOf (a :: l) := ⟨_, rfl⟩
              rw [← hL] at h57 hz
              simp only [List.isEmpty_cons, Bool.false_eq_true, if_false]
              refine fn_walk 38 Tryz.call19 Tryz.func19 rfl (by decide) fun J => ?_
              simp (maxSteps := 4000000) only [go_sem, St.start, Tryz.ntmps19, Tryz.results19, Net.cells_eq]
              repeat (first | refine walkL_true rfl ?_ | refine walkL_false rfl ?_ | refine walkL_seq ?_ | refine walkL_skip ?_ | refine walkL_block ?_ | (refine walkL_region fun K hK => ?_; simp (maxSteps := 4000000) only [go_sem, zc, hz, intRows_len]; (repeat (first | (refine ⟨_, .lent (hf := h35) (hd := rfl) (hr := rfl), ?_⟩; simp (maxSteps := 4000000) only [go_sem, zc, hz, intRows_len]) | (refine ⟨_, .lent (hf := h42) (hd := rfl) (hr := rfl), ?_⟩; simp (maxSteps := 4000000) only [go_sem, zc, hz, intRows_len]) | (refine ⟨_, .lent (hf := h54) (hd := rfl) (hr := rfl), ?_⟩; simp (maxSteps := 4000000) only [go_sem, zc, hz, intRows_len]) | (refine ⟨_, .lent (hf := h56) (hd := rfl) (hr := rfl), ?_⟩; simp (maxSteps := 4000000) only [go_sem, zc, hz, intRows_len]) | (refine ⟨_, .lent (hf := h57) (hd := rfl) (hr := rfl), ?_⟩; simp (maxSteps := 4000000) only [go_sem, zc, hz, intRows_len]) | (refine ⟨_, .given (hf := h35) (hd := rfl) (ha := rfl), ?_⟩; simp (maxSteps := 4000000) only [go_sem, zc, hz, intRows_len]) | (refine ⟨_, .given (hf := h42) (hd := rfl) (ha := rfl), ?_⟩; simp (maxSteps := 4000000) only [go_sem, zc, hz, intRows_len]) | (refine ⟨_, .given (hf := h54) (hd := rfl) (ha := rfl), ?_⟩; simp (maxSteps := 4000000) only [go_sem, zc, hz, intRows_len]) | (refine ⟨_, .given (hf := h56) (hd := rfl) (ha := rfl), ?_⟩; simp (maxSteps := 4000000) only [go_sem, zc, hz, intRows_len]) | (refine ⟨_, .given (hf := h57) (hd := rfl) (ha := rfl), ?_⟩; simp (maxSteps := 4000000) only [go_sem, zc, hz, intRows_len]))); refine hK _ ?_; clear hK K) | refine walkL_nil ?_ | refine walkL_ret ?_ | refine walkL_exit ?_ | refine blockA_here ?_ | refine blockA_other rfl ?_ | refine blockA_ret ?_ | refine blockA_normal ?_ | refine thenA_ret ?_ | refine thenA_exit ?_ | refine thenA_normal ?_)
              simp (maxSteps := 4000000) only [go_sem]
        · rw [hbr] at h56
          rw [if_pos rfl, if_neg (by decide)]
          refine fn_walk 38 Tryz.call19 Tryz.func19 rfl (by decide) fun J => ?_
          simp (maxSteps := 4000000) only [go_sem, St.start, Tryz.ntmps19, Tryz.results19, Net.cells_eq]
          repeat (first | refine walkL_true rfl ?_ | refine walkL_false rfl ?_ | refine walkL_seq ?_ | refine walkL_skip ?_ | refine walkL_block ?_ | (refine walkL_region fun K hK => ?_; simp (maxSteps := 4000000) only [go_sem, zc]; (repeat (first | (refine ⟨_, .lent (hf := h35) (hd := rfl) (hr := rfl), ?_⟩; simp (maxSteps := 4000000) only [go_sem, zc]) | (refine ⟨_, .lent (hf := h42) (hd := rfl) (hr := rfl), ?_⟩; simp (maxSteps := 4000000) only [go_sem, zc]) | (refine ⟨_, .lent (hf := h54) (hd := rfl) (hr := rfl), ?_⟩; simp (maxSteps := 4000000) only [go_sem, zc]) | (refine ⟨_, .lent (hf := h56) (hd := rfl) (hr := rfl), ?_⟩; simp (maxSteps := 4000000) only [go_sem, zc]) | (refine ⟨_, .given (hf := h35) (hd := rfl) (ha := rfl), ?_⟩; simp (maxSteps := 4000000) only [go_sem, zc]) | (refine ⟨_, .given (hf := h42) (hd := rfl) (ha := rfl), ?_⟩; simp (maxSteps := 4000000) only [go_sem, zc]) | (refine ⟨_, .given (hf := h54) (hd := rfl) (ha := rfl), ?_⟩; simp (maxSteps := 4000000) only [go_sem, zc]) | (refine ⟨_, .given (hf := h56) (hd := rfl) (ha := rfl), ?_⟩; simp (maxSteps := 4000000) only [go_sem, zc]))); refine hK _ ?_; clear hK K) | refine walkL_nil ?_ | refine walkL_ret ?_ | refine walkL_exit ?_ | refine blockA_here ?_ | refine blockA_other rfl ?_ | refine blockA_ret ?_ | refine blockA_normal ?_ | refine thenA_ret ?_ | refine thenA_exit ?_ | refine thenA_normal ?_)
          simp (maxSteps := 4000000) only [go_sem]
    · have zc : (c != 0) = true := by simpa using hc0
      rw [if_pos hc0]
      refine fn_walk 38 Tryz.call19 Tryz.func19 rfl (by decide) fun J => ?_
      simp (maxSteps := 4000000) only [go_sem, St.start, Tryz.ntmps19, Tryz.results19, Net.cells_eq]
      repeat (first | refine walkL_true rfl ?_ | refine walkL_false rfl ?_ | refine walkL_seq ?_ | refine walkL_skip ?_ | refine walkL_block ?_ | (refine walkL_region fun K hK => ?_; simp (maxSteps := 4000000) only [go_sem, zc]; (repeat (first | (refine ⟨_, .lent (hf := h35) (hd := rfl) (hr := rfl), ?_⟩; simp (maxSteps := 4000000) only [go_sem, zc]) | (refine ⟨_, .lent (hf := h42) (hd := rfl) (hr := rfl), ?_⟩; simp (maxSteps := 4000000) only [go_sem, zc]) | (refine ⟨_, .given (hf := h35) (hd := rfl) (ha := rfl), ?_⟩; simp (maxSteps := 4000000) only [go_sem, zc]) | (refine ⟨_, .given (hf := h42) (hd := rfl) (ha := rfl), ?_⟩; simp (maxSteps := 4000000) only [go_sem, zc]))); refine hK _ ?_; clear hK K) | refine walkL_nil ?_ | refine walkL_ret ?_ | refine walkL_exit ?_ | refine blockA_here ?_ | refine blockA_other rfl ?_ | refine blockA_ret ?_ | refine blockA_normal ?_ | refine thenA_ret ?_ | refine thenA_exit ?_ | refine thenA_normal ?_)
      simp (maxSteps := 4000000) only [go_sem]
  · rw [hb] at h35
    simp only [if_true] at h35
    simp only [if_true]
    rw [if_pos (by decide)]
    refine fn_walk 38 Tryz.call19 Tryz.func19 rfl (by decide) fun J => ?_
    simp (maxSteps := 4000000) only [go_sem, St.start, Tryz.ntmps19, Tryz.results19, Net.cells_eq]
    repeat (first | refine walkL_true rfl ?_ | refine walkL_false rfl ?_ | refine walkL_seq ?_ | refine walkL_skip ?_ | refine walkL_block ?_ | (refine walkL_region fun K hK => ?_; simp (maxSteps := 4000000) only [go_sem]; (repeat (first | (refine ⟨_, .lent (hf := h35) (hd := rfl) (hr := rfl), ?_⟩; simp (maxSteps := 4000000) only [go_sem]) | (refine ⟨_, .given (hf := h35) (hd := rfl) (ha := rfl), ?_⟩; simp (maxSteps := 4000000) only [go_sem]))); refine hK _ ?_; clear hK K) | refine walkL_nil ?_ | refine walkL_ret ?_ | refine walkL_exit ?_ | refine blockA_here ?_ | refine blockA_other rfl ?_ | refine blockA_ret ?_ | refine blockA_normal ?_ | refine thenA_ret ?_ | refine thenA_exit ?_ | refine thenA_normal ?_)
    simp (maxSteps := 4000000) only [go_sem]

/-- What Open returns. -/
def opnF (n : Net) (rules : List Rule) (F : List (List Hour)) (seen : List Sight) (p : Int) : List Span × List Span × Int :=
  if ruledE n rules F seen (if p < 0 then 24 else p) = 0 then (openS (ofPath rules (if p < 0 then 24 else p)) (scensOf (possL F seen)) (hd0 F).length, openM (ofPath rules (if p < 0 then 24 else p)) (scensOf (possL F seen)) (hd0 F).length, 0) else ([], [], ruledE n rules F seen (if p < 0 then 24 else p))

theorem f12o (n : Net) (rules : List Rule) (F : List (List Hour)) (seen : List Sight) (p : Int) (hn : n.Small) (hr : rules.length < 2 ^ 30) (hs : ForeSmall F) (hsl : seen.length < 2 ^ 30) :
    Fn Tryz.prog 12 [.agg n.cells, .sl (ruleRows rules), .agg [.sl (scenRows F)], .sl (sightRows seen), .i p] (.tup [.sl (spanRows (opnF n rules F seen p).1), .sl (spanRows (opnF n rules F seen p).2.1), .i (opnF n rules F seen p).2.2]) := by
  have key : ∀ q : Int, q = (if p < 0 then 24 else p) → Fn Tryz.prog 12 [.agg n.cells, .sl (ruleRows rules), .agg [.sl (scenRows F)], .sl (sightRows seen), .i p] (.tup [.sl (spanRows (opnF n rules F seen p).1), .sl (spanRows (opnF n rules F seen p).2.1), .i (opnF n rules F seen p).2.2]) := by
    intro q hq
    have h40 := f40 n rules F seen q hn hr hs hsl
    unfold opnF
    rw [← hq]
    rw [Net.cells_eq] at h40
    obtain ⟨e, he⟩ : ∃ e, e = ruledE n rules F seen q := ⟨_, rfl⟩
    rw [← he] at h40 ⊢
    have qp : (decide (p < 0) = true ∧ q = 24) ∨ (decide (p < 0) = false ∧ q = p) := by
      by_cases hp : p < 0
      · rw [if_pos hp] at hq
        exact .inl ⟨decide_eq_true hp, hq⟩
      · rw [if_neg hp] at hq
        exact .inr ⟨decide_eq_false hp, hq⟩
    by_cases h0 : e = 0
    · rw [if_pos h0, lookV_out] at h40
      rw [if_pos h0]
      have hz : (e != 0) = false := by simp [h0]
      obtain ⟨hg, hsi, hne, hbn, hbr, _⟩ := ruled_all (he.symm.trans h0)
      obtain ⟨hrl, hro⟩ := rules_ok hbr
      have hall := scens_all (seen := seen) hg
      have hSl := scens_short (F := F) (seen := seen)
      have hH := hg.hours
      have hF := hg.scen
      have h41 := f41 (numsOf (possL F seen)) (scensOf (possL F seen)) (hd0 F).length (ofPath rules q) (fun x hx => (hro x (ofPath_sub x hx)).2.1) hall (by omega) (by omega) (by have := ofPath_len (rules := rules) (p := q); omega)
      obtain ⟨A, hA⟩ : ∃ A, A = openS (ofPath rules q) (scensOf (possL F seen)) (hd0 F).length := ⟨_, rfl⟩
      obtain ⟨B, hB⟩ : ∃ B, B = openM (ofPath rules q) (scensOf (possL F seen)) (hd0 F).length := ⟨_, rfl⟩
      rw [← hA, ← hB] at h41 ⊢
      rw [outV] at h40 h41
      rcases qp with ⟨q1, rfl⟩ | ⟨q1, rfl⟩
      all_goals
        refine fn_walk 35 Tryz.call12 Tryz.func12 rfl (by decide) fun J => ?_
        simp (maxSteps := 4000000) only [go_sem, St.start, Tryz.ntmps12, Tryz.results12, Net.cells_eq]
        repeat (first | refine walkL_true rfl ?_ | refine walkL_false rfl ?_ | refine walkL_seq ?_ | refine walkL_skip ?_ | refine walkL_block ?_ | (refine walkL_region fun K hK => ?_; simp (maxSteps := 4000000) only [go_sem, q1, hz]; (repeat (first | (refine ⟨_, .lent (hf := h40) (hd := rfl) (hr := rfl), ?_⟩; simp (maxSteps := 4000000) only [go_sem, q1, hz]) | (refine ⟨_, .lent (hf := h41) (hd := rfl) (hr := rfl), ?_⟩; simp (maxSteps := 4000000) only [go_sem, q1, hz]) | (refine ⟨_, .given (hf := h40) (hd := rfl) (ha := rfl), ?_⟩; simp (maxSteps := 4000000) only [go_sem, q1, hz]) | (refine ⟨_, .given (hf := h41) (hd := rfl) (ha := rfl), ?_⟩; simp (maxSteps := 4000000) only [go_sem, q1, hz]))); refine hK _ ?_; clear hK K) | refine walkL_nil ?_ | refine walkL_ret ?_ | refine walkL_exit ?_ | refine blockA_here ?_ | refine blockA_other rfl ?_ | refine blockA_ret ?_ | refine blockA_normal ?_ | refine thenA_ret ?_ | refine thenA_exit ?_ | refine thenA_normal ?_)
        simp (maxSteps := 4000000) only [go_sem]
    · rw [if_neg h0] at h40
      rw [if_neg h0]
      have hz : (e != 0) = true := by simpa using h0
      have e0 : spanRows [] = [] := rfl
      rcases qp with ⟨q1, rfl⟩ | ⟨q1, rfl⟩
      all_goals
        refine fn_walk 35 Tryz.call12 Tryz.func12 rfl (by decide) fun J => ?_
        simp (maxSteps := 4000000) only [go_sem, St.start, Tryz.ntmps12, Tryz.results12, Net.cells_eq]
        repeat (first | refine walkL_true rfl ?_ | refine walkL_false rfl ?_ | refine walkL_seq ?_ | refine walkL_skip ?_ | refine walkL_block ?_ | (refine walkL_region fun K hK => ?_; simp (maxSteps := 4000000) only [go_sem, q1, hz]; (repeat (first | (refine ⟨_, .lent (hf := h40) (hd := rfl) (hr := rfl), ?_⟩; simp (maxSteps := 4000000) only [go_sem, q1, hz]) | (refine ⟨_, .given (hf := h40) (hd := rfl) (ha := rfl), ?_⟩; simp (maxSteps := 4000000) only [go_sem, q1, hz]))); refine hK _ ?_; clear hK K) | refine walkL_nil ?_ | refine walkL_ret ?_ | refine walkL_exit ?_ | refine blockA_here ?_ | refine blockA_other rfl ?_ | refine blockA_ret ?_ | refine blockA_normal ?_ | refine thenA_ret ?_ | refine thenA_exit ?_ | refine thenA_normal ?_)
        simp (maxSteps := 4000000) only [go_sem, e0]
  exact key _ rfl

/-- Whether a rule keeps a path open. -/
def ruleOk (m : List Sky) (p : Int) (h : Nat) (r : Rule) : Bool := !(r.path == p) || (List.range (h + 1)).all fun b => !(decide ((h : Int) - r.after ≤ (b : Int))) || keptB (skyAt m b) r.lim
theorem isOpenF_eq (rules : List Rule) (m : List Sky) (p : Int) (h : Nat) : isOpenF rules m p h = rules.all (ruleOk m p h) := rfl

theorem all_take_s {α : Type} {l : List α} {q : α → Bool} {i : Nat} {x : α} (h : l[i]? = some x) (h0 : (l.take i).all q = true) (hq : q x = true) : (l.take (i + 1)).all q = true := by
  rw [List.take_add_one, h]
  simp [hq]
  simpa using h0

theorem f20 (rules : List Rule) (m : List Sky) (p : Int) (h : Nat) (hh : h < m.length) (hm : m.length < 2 ^ 30) (hr : rules.length < 2 ^ 30) (ha : ∀ r ∈ rules, 0 ≤ r.after ∧ r.after ≤ 48) :
    Fn Tryz.prog 20 [.sl (ruleRows rules), .sl (skyRows m), .i p, .i h] (.bool (isOpenF rules m p h)) := by
  rw [isOpenF_eq]
  refine fn_walk 48 Tryz.call20 Tryz.func20 rfl (by decide) fun J => ?_
  simp (maxSteps := 4000000) only [go_sem, St.start, Tryz.ntmps20, Tryz.results20]
  repeat (first | refine walkL_seq ?_ | refine walkL_skip ?_ | refine walkL_block ?_ | (refine walkL_region fun K hK => ?_; simp (maxSteps := 4000000) only [go_sem]; refine hK _ ?_; clear hK K) | refine walkL_nil ?_ | refine walkL_ret ?_ | refine walkL_exit ?_ | refine blockA_here ?_ | refine blockA_other rfl ?_ | refine blockA_ret ?_ | refine blockA_normal ?_ | refine thenA_ret ?_ | refine thenA_exit ?_ | refine thenA_normal ?_)
  refine walkL_loopS (fun (i : Nat) => [(9, .d (.i i)), (10, .undef)]) (fun _ => []) (fun i => i ≤ rules.length ∧ (rules.take i).all (ruleOk m p h) = true) (fun i => rules.length - i) 0 ?_ ⟨Nat.zero_le _, by simp⟩ ?_
  · simp (maxSteps := 4000000) only [go_sem]
    refine weak_of [] ?_ ?_ rfl rfl <;> simp [lessT, lessM, lessB, AV.less]
    all_goals first | done | rfl
  · intro i ⟨hi, hall⟩
    simp (maxSteps := 4000000) only [go_sem]
    repeat (first | refine walkL_seq ?_ | refine walkL_skip ?_ | refine walkL_block ?_ | (refine walkL_region fun K hK => ?_; simp (maxSteps := 4000000) only [go_sem, ruleRows_len]; refine hK _ ?_; clear hK K) | refine walkL_nil ?_ | refine walkL_ret ?_ | refine walkL_exit ?_ | refine blockA_here ?_ | refine blockA_other rfl ?_ | refine blockA_ret ?_ | refine blockA_normal ?_ | refine thenA_ret ?_ | refine thenA_exit ?_ | refine thenA_normal ?_)
    refine walkL_cond rfl (fun hb => ?_) (fun hb => ?_)
    · have hlt : i < rules.length := by simpa using hb
      have hw : IntKind.i64.wrap ((i : Int) + 1) = ((i + 1 : Nat) : Int) := by rw [wr_small (by omega)]; simp
      obtain ⟨r, hx⟩ : ∃ r, rules[i]? = some r := ⟨_, List.getElem?_eq_getElem hlt⟩
      have g1 := ruleRows_get hx
      rw [Rule.row] at g1
      have hra := ha r (List.mem_of_getElem? hx)
      cases qp : (r.path != p)
      · have hpp : (r.path == p) = true := by simpa using qp
        have w1 : IntKind.i64.wrap ((h : Int) - r.after) = (h : Int) - r.after := wr_small (by omega)
        obtain ⟨s0, hs0⟩ : ∃ s0 : Nat, max 0 ((h : Int) - r.after) = (s0 : Int) := ⟨(max 0 ((h : Int) - r.after)).toNat, by omega⟩
        have hs0h : s0 ≤ h := by omega
        repeat (first | refine walkL_true rfl ?_ | refine walkL_false rfl ?_ | refine walkL_seq ?_ | refine walkL_skip ?_ | refine walkL_block ?_ | (refine walkL_region fun K hK => ?_; simp (maxSteps := 4000000) only [go_sem, g1, qp, w1, hs0, ruleRows_len]; refine hK _ ?_; clear hK K) | refine walkL_nil ?_ | refine walkL_ret ?_ | refine walkL_exit ?_ | refine blockA_here ?_ | refine blockA_other rfl ?_ | refine blockA_ret ?_ | refine blockA_normal ?_ | refine thenA_ret ?_ | refine thenA_exit ?_ | refine thenA_normal ?_)
        refine walkL_loopS (fun (b : Nat) => [(10, .d (.i b))]) (fun _ => []) (fun b => (s0 ≤ b ∧ b ≤ h + 1) ∧ ∀ b', s0 ≤ b' → b' < b → keptB (skyAt m b') r.lim = true) (fun b => h + 1 - b) s0 ?_ ⟨⟨Nat.le_refl _, by omega⟩, fun b' h1 h2 => by omega⟩ ?_
        · simp (maxSteps := 4000000) only [go_sem]
          refine weak_of [] ?_ ?_ rfl rfl <;> simp [lessT, lessM, lessB, AV.less]
          all_goals first | done | rfl
        · intro b ⟨⟨hb1, hb2⟩, hk⟩
          simp (maxSteps := 4000000) only [go_sem]
          repeat (first | refine walkL_seq ?_ | refine walkL_skip ?_ | refine walkL_block ?_ | (refine walkL_region fun K hK => ?_; simp (maxSteps := 4000000) only [go_sem]; refine hK _ ?_; clear hK K) | refine walkL_nil ?_ | refine walkL_ret ?_ | refine walkL_exit ?_ | refine blockA_here ?_ | refine blockA_other rfl ?_ | refine blockA_ret ?_ | refine blockA_normal ?_ | refine thenA_ret ?_ | refine thenA_exit ?_ | refine thenA_normal ?_)
          refine walkL_cond rfl (fun hb => ?_) (fun hb => ?_)
          · have hbh : b ≤ h := by have := of_decide_eq_true hb; omega
            have hwb : IntKind.i64.wrap ((b : Int) + 1) = ((b + 1 : Nat) : Int) := by rw [wr_small (by omega)]; simp
            have g2 := skyRows_at (skyAt_get (l := m) (i := b) (by omega))
            have h58 := f58 (skyAt m b) r.lim
            cases qk : keptB (skyAt m b) r.lim
            · have e : rules.all (ruleOk m p h) = false := by
                rw [List.all_eq_false]
                refine ⟨r, List.mem_of_getElem? hx, ?_⟩
                unfold ruleOk
                rw [hpp]
                simp only [Bool.not_true, Bool.false_or, Bool.not_eq_true]
                rw [List.all_eq_false]
                refine ⟨b, by simp; omega, ?_⟩
                rw [qk, decide_eq_true (show (h : Int) - r.after ≤ (b : Int) by omega)]
                decide
              rw [e]
              rw [qk] at h58
              obtain ⟨s, hse⟩ : ∃ s, s = skyAt m b := ⟨_, rfl⟩
              rw [← hse] at g2 h58
              rw [Sky.row] at g2 h58
              rw [Limits.row] at h58
              repeat (first | refine walkL_true rfl ?_ | refine walkL_false rfl ?_ | refine walkL_seq ?_ | refine walkL_skip ?_ | refine walkL_block ?_ | (refine walkL_region fun K hK => ?_; simp (maxSteps := 4000000) only [go_sem, g1, g2, ruleRows_len, skyRows_len]; (repeat (first | (refine ⟨_, .lent (hf := h58) (hd := rfl) (hr := rfl), ?_⟩; simp (maxSteps := 4000000) only [go_sem, g1, g2, ruleRows_len, skyRows_len]) | (refine ⟨_, .given (hf := h58) (hd := rfl) (ha := rfl), ?_⟩; simp (maxSteps := 4000000) only [go_sem, g1, g2, ruleRows_len, skyRows_len]))); refine hK _ ?_; clear hK K) | (refine walkL_drawn (by kernel_rfl) (by kernel_rfl) fun K hK => ?_; simp (maxSteps := 4000000) only [go_sem, g1, g2, ruleRows_len, skyRows_len]; (repeat (first | (refine ⟨_, .fn (hf := h58) (hd := rfl) (hr := .inl rfl), ?_⟩; simp (maxSteps := 4000000) only [go_sem, g1, g2, ruleRows_len, skyRows_len]))); refine ⟨by kernel_rfl, hK _ ?_⟩; clear hK K) | refine walkL_nil ?_ | refine walkL_ret ?_ | refine walkL_exit ?_ | refine blockA_here ?_ | refine blockA_other rfl ?_ | refine blockA_ret ?_ | refine blockA_normal ?_ | refine thenA_ret ?_ | refine thenA_exit ?_ | refine thenA_normal ?_)
              simp (maxSteps := 4000000) only [go_sem]
            · rw [qk] at h58
              obtain ⟨s, hse⟩ : ∃ s, s = skyAt m b := ⟨_, rfl⟩
              rw [← hse] at g2 h58 qk
              rw [Sky.row] at g2 h58
              rw [Limits.row] at h58
              repeat (first | refine walkL_true rfl ?_ | refine walkL_false rfl ?_ | refine walkL_seq ?_ | refine walkL_skip ?_ | refine walkL_block ?_ | (refine walkL_region fun K hK => ?_; simp (maxSteps := 4000000) only [go_sem, g1, g2, hwb, ruleRows_len, skyRows_len]; (repeat (first | (refine ⟨_, .lent (hf := h58) (hd := rfl) (hr := rfl), ?_⟩; simp (maxSteps := 4000000) only [go_sem, g1, g2, hwb, ruleRows_len, skyRows_len]) | (refine ⟨_, .given (hf := h58) (hd := rfl) (ha := rfl), ?_⟩; simp (maxSteps := 4000000) only [go_sem, g1, g2, hwb, ruleRows_len, skyRows_len]))); refine hK _ ?_; clear hK K) | (refine walkL_drawn (by kernel_rfl) (by kernel_rfl) fun K hK => ?_; simp (maxSteps := 4000000) only [go_sem, g1, g2, hwb, ruleRows_len, skyRows_len]; (repeat (first | (refine ⟨_, .fn (hf := h58) (hd := rfl) (hr := .inl rfl), ?_⟩; simp (maxSteps := 4000000) only [go_sem, g1, g2, hwb, ruleRows_len, skyRows_len]))); refine ⟨by kernel_rfl, hK _ ?_⟩; clear hK K) | refine walkL_nil ?_ | refine walkL_ret ?_ | refine walkL_exit ?_ | refine blockA_here ?_ | refine blockA_other rfl ?_ | refine blockA_ret ?_ | refine blockA_normal ?_ | refine thenA_ret ?_ | refine thenA_exit ?_ | refine thenA_normal ?_)
              refine ⟨rfl, b + 1, ?_, ⟨⟨by omega, by omega⟩, fun b' h1 h2 => by
                by_cases he : b' = b
                · rw [he, ← hse]; exact qk
                · exact hk b' h1 (by omega)⟩, by omega⟩
              refine weak_of [] ?_ ?_ rfl rfl <;> simp [lessT, lessM, lessB, AV.less]
          · have hbe : b = h + 1 := by (have : ¬ ((b : Int) ≤ (h : Int)) := by simpa using hb); omega
            have hok : ruleOk m p h r = true := by
              unfold ruleOk
              rw [hpp]
              simp only [Bool.not_true, Bool.false_or, List.all_eq_true, List.mem_range]
              intro b' hb'
              by_cases hc : (h : Int) - r.after ≤ (b' : Int)
              · rw [hk b' (by omega) (by omega)]; simp
              · rw [decide_eq_false hc]; rfl
            repeat (first | refine walkL_true rfl ?_ | refine walkL_false rfl ?_ | refine walkL_seq ?_ | refine walkL_skip ?_ | refine walkL_block ?_ | (refine walkL_region fun K hK => ?_; simp (maxSteps := 4000000) only [go_sem, hw]; refine hK _ ?_; clear hK K) | refine walkL_nil ?_ | refine walkL_ret ?_ | refine walkL_exit ?_ | refine blockA_here ?_ | refine blockA_other rfl ?_ | refine blockA_ret ?_ | refine blockA_normal ?_ | refine thenA_ret ?_ | refine thenA_exit ?_ | refine thenA_normal ?_)
            refine ⟨rfl, i + 1, ?_, ⟨hlt, all_take_s hx hall hok⟩, by omega⟩
            refine weak_of [] ?_ ?_ rfl rfl <;> simp [lessT, lessM, lessB, AV.less]
      · have hpp : (r.path == p) = false := by simpa using qp
        have hok : ruleOk m p h r = true := by unfold ruleOk; rw [hpp]; rfl
        repeat (first | refine walkL_true rfl ?_ | refine walkL_false rfl ?_ | refine walkL_seq ?_ | refine walkL_skip ?_ | refine walkL_block ?_ | (refine walkL_region fun K hK => ?_; simp (maxSteps := 4000000) only [go_sem, g1, qp, hw, ruleRows_len]; refine hK _ ?_; clear hK K) | refine walkL_nil ?_ | refine walkL_ret ?_ | refine walkL_exit ?_ | refine blockA_here ?_ | refine blockA_other rfl ?_ | refine blockA_ret ?_ | refine blockA_normal ?_ | refine thenA_ret ?_ | refine thenA_exit ?_ | refine thenA_normal ?_)
        refine ⟨rfl, i + 1, ?_, ⟨hlt, all_take_s hx hall hok⟩, by omega⟩
        refine weak_of [] ?_ ?_ rfl rfl <;> simp [lessT, lessM, lessB, AV.less]
    · have he : i = rules.length := by (have : ¬ i < rules.length := by simpa using hb); omega
      subst he
      rw [List.take_length] at hall
      rw [hall]
      repeat (first | refine walkL_seq ?_ | refine walkL_skip ?_ | refine walkL_block ?_ | (refine walkL_region fun K hK => ?_; simp (maxSteps := 4000000) only [go_sem]; refine hK _ ?_; clear hK K) | refine walkL_nil ?_ | refine walkL_ret ?_ | refine walkL_exit ?_ | refine blockA_here ?_ | refine blockA_other rfl ?_ | refine blockA_ret ?_ | refine blockA_normal ?_ | refine thenA_ret ?_ | refine thenA_exit ?_ | refine thenA_normal ?_)
      simp (maxSteps := 4000000) only [go_sem]
end Go.Ab
namespace Go.Ab
open Go.RowKit Go.Proofs
set_option maxHeartbeats 16000000
set_option maxRecDepth 20000
attribute [local irreducible] WalkL Walk

/-! ### WeatherClosed -/

theorem closed_min {F : List (List Hour)} {seen : List Sight} (hg : ForeGood F) (hsi : sightsB (hd0 F).length seen = true) {m : List Sky} (hwe : weB F seen m = true) (rules : List Rule) (i : Nat) (x : Path) {h t : Nat} (hh : h < m.length) (ht : t / 60 = h)
    (hin : inSpans (safeP rules (scensOf (possL F seen)) (hd0 F).length i x).opens (t : Int) = true) : isOpenF rules m i h = true ∧ inSpans x.opens (t : Int) = true := by
  unfold safeP at hin
  cases q : (((ofPath rules i).length : Int) == 0)
  · rw [q] at hin
    simp only [Bool.false_eq_true, if_false] at hin
    obtain ⟨h1, h2⟩ := safe_in hin
    rw [ht] at h2
    exact ⟨(closed_hour hg hsi hwe rules i hh).1 h2, h1⟩
  · rw [q] at hin
    simp only [if_true] at hin
    refine ⟨isOpen_iff.2 fun r hr => ?_, hin⟩
    have h0 : ((ofPath rules i).length : Int) = 0 := by simpa using q
    have : ofPath rules i = [] := List.length_eq_zero_iff.1 (by omega)
    rw [this] at hr
    cases hr

theorem safe_len {n : Net} (hn : n.Good) (rules : List Rule) (S : List (List Hour)) (H i : Nat) {x : Path} (hx : x ∈ n.paths) : (safeP rules S H i x).opens.length ≤ 6 := by
  unfold safeP
  split
  · exact (hn.path x hx).len
  · show (safeOpens _ _).length ≤ 6
    unfold safeOpens
    rw [List.length_take]
    omega

def badClosed (F : List (List Hour)) (u : RuledX) (x : RealX) : Bool :=
  farRules u || (decide ((x.skies.length : Int) > 60) || (!weathersB F x.seen x.skies || (crE u.net u.rules F x.seen true != 0)))

theorem f4 (F : List (List Hour)) (u : RuledX) (x : RealX) (hs : ForeSmall F) (hu : u.net.Small) (hr : u.rules.length < 2 ^ 30) (hsl : x.seen.length < 2 ^ 30) (hkl : x.skies.length < 2 ^ 30) :
    Fn Tryz.prog 4 [.agg [.sl (scenRows F)], .agg u.cells, .agg x.cells] (.bool true) := by
  obtain ⟨seen, m, lim, len⟩ := x
  dsimp only at hsl hkl
  obtain ⟨n, rules, pth⟩ := u
  dsimp only at hu hr
  have h9 := f9
  have h8 := f8 ⟨n, rules, pth⟩ hu
  have h18 := f18 F seen m hs hsl
  have h19 := f19 n rules F seen true hu hr hs hsl
  rw [Net.cells_eq] at h19
  rw [RuledX.cells] at h8
  dsimp only at h8
  refine fn_walk 164 Tryz.call4 Tryz.func4 rfl (by decide) fun J => ?_
  simp (maxSteps := 4000000) only [go_sem, St.start, Tryz.ntmps4, Tryz.results4, RealX.cells, RuledX.cells]
  repeat (first | refine walkL_seq ?_ | refine walkL_skip ?_ | refine walkL_block ?_ | (refine walkL_region fun K hK => ?_; simp (maxSteps := 4000000) only [go_sem]; refine hK _ ?_; clear hK K) | refine walkL_nil ?_ | refine walkL_ret ?_ | refine walkL_exit ?_ | refine blockA_here ?_ | refine blockA_other rfl ?_ | refine blockA_ret ?_ | refine blockA_normal ?_ | refine thenA_ret ?_ | refine thenA_exit ?_ | refine thenA_normal ?_)
  refine walkL_meetS [(43, .d (.bool (badClosed F ⟨n, rules, pth⟩ ⟨seen, m, lim, len⟩)))] [] ?_ ?_
  · refine walkL_region fun K hK => ?_
    simp (maxSteps := 4000000) only [go_sem, skyRows_len]
    refine ⟨_, .lent (hf := h8) (hd := rfl) (hr := rfl), ?_⟩
    simp (maxSteps := 4000000) only [go_sem, skyRows_len]
    by_cases ho0 : (farRules ⟨n, rules, pth⟩) = true
    · simp (maxSteps := 4000000) only [go_sem, skyRows_len, ho0]
      refine hK _ ?_
      clear hK K
      refine walkL_nil ?_
      refine thenA_normal ?_
      refine ⟨rfl, ?_⟩
      rw [show (badClosed F ⟨n, rules, pth⟩ ⟨seen, m, lim, len⟩) = (true) from by simp [badClosed, ho0]]
      simp (maxSteps := 4000000) only [go_sem]
      refine weak_of [] ?_ ?_ rfl rfl <;> simp [lessT, lessM, lessB, AV.less]
    · simp (maxSteps := 4000000) only [go_sem, skyRows_len, ho0]
      by_cases ho1 : (decide ((m.length : Int) > 60)) = true
      · simp (maxSteps := 4000000) only [go_sem, skyRows_len, ho0, ho1]
        refine hK _ ?_
        clear hK K
        refine walkL_nil ?_
        refine thenA_normal ?_
        refine ⟨rfl, ?_⟩
        rw [show (badClosed F ⟨n, rules, pth⟩ ⟨seen, m, lim, len⟩) = (true) from by simp [badClosed, ho0, ho1]]
        simp (maxSteps := 4000000) only [go_sem]
        refine weak_of [] ?_ ?_ rfl rfl <;> simp [lessT, lessM, lessB, AV.less]
      · simp (maxSteps := 4000000) only [go_sem, skyRows_len, ho0, ho1]
        refine ⟨_, .lent (hf := h18) (hd := rfl) (hr := rfl), ?_⟩
        simp (maxSteps := 4000000) only [go_sem, skyRows_len, ho0, ho1]
        by_cases ho2 : (!weathersB F seen m) = true
        · simp (maxSteps := 4000000) only [go_sem, skyRows_len, ho0, ho1, ho2]
          refine hK _ ?_
          clear hK K
          refine walkL_nil ?_
          refine thenA_normal ?_
          refine ⟨rfl, ?_⟩
          rw [show (badClosed F ⟨n, rules, pth⟩ ⟨seen, m, lim, len⟩) = (true) from by simp [badClosed, ho0, ho1, ho2]]
          simp (maxSteps := 4000000) only [go_sem]
          refine weak_of [] ?_ ?_ rfl rfl <;> simp [lessT, lessM, lessB, AV.less]
        · simp (maxSteps := 4000000) only [go_sem, skyRows_len, ho0, ho1, ho2]
          refine ⟨_, .lent (hf := h19) (hd := rfl) (hr := rfl), ?_⟩
          simp (maxSteps := 4000000) only [go_sem, skyRows_len, ho0, ho1, ho2]
          refine hK _ ?_
          clear hK K
          refine walkL_nil ?_
          refine thenA_normal ?_
          refine ⟨rfl, ?_⟩
          rw [show (badClosed F ⟨n, rules, pth⟩ ⟨seen, m, lim, len⟩) = (crE n rules F seen true != 0) from by simp [badClosed, ho0, ho1, ho2]]
          simp (maxSteps := 4000000) only [go_sem]
          refine weak_of [] ?_ ?_ rfl rfl <;> simp [lessT, lessM, lessB, AV.less]
  cases hbad : badClosed F ⟨n, rules, pth⟩ ⟨seen, m, lim, len⟩
  · simp (maxSteps := 4000000) only [go_sem]
    obtain ⟨b1, b2, b3⟩ : decide ((m.length : Int) > 60) = false ∧ weathersB F seen m = true ∧ crE n rules F seen true = 0 := by
      unfold badClosed at hbad
      simp only [Bool.or_eq_false_iff, Bool.not_eq_false', bne_eq_false_iff_eq] at hbad
      exact hbad.2
    obtain ⟨_, hg, hsi, hwe⟩ := weathers_iff b2
    have hml : m.length ≤ 60 := by have := of_decide_eq_false b1; omega
    have hHm := (we_in hg hsi hwe).1
    have hru : ∀ p : Int, -1 ≤ p → p ≤ (n.paths.length : Int) - 1 → ruledE n rules F seen p = 0 := fun p h1 h2 => by
      rw [ruledE_cr, within_iff.2 ⟨h1, h2⟩]
      exact b3
    obtain ⟨_, _, _, hbn, hbr, _⟩ := ruled_all (hru (-1) (by omega) (by omega))
    have hnG : n.Good := good_iff.1 (by rw [hbn]; decide)
    have hro := (rules_ok hbr).2
    have h15 := f15 n rules F seen hu hr hs hsl
    have k15 : safeF n rules F seen = (⟨n.places, n.paths.mapIdx (safeP rules (scensOf (possL F seen)) (hd0 F).length)⟩, 0) := by
      unfold safeF
      rw [if_pos (hru (-1) (by omega) (by omega))]
    rw [k15] at h15
    obtain ⟨f, hf⟩ : ∃ f, f = safeP rules (scensOf (possL F seen)) (hd0 F).length := ⟨_, rfl⟩
    rw [← hf, Net.cells_eq, Net.cells_eq] at h15
    dsimp only at h15
    obtain ⟨P, hP⟩ : ∃ P, P = n.paths.mapIdx f := ⟨_, rfl⟩
    have hPl : P.length = n.paths.length := by rw [hP, List.length_mapIdx]
    have hPg : ∀ i x, n.paths[i]? = some x → P[i]? = some (f i x) := fun i x hx => by rw [hP, List.getElem?_mapIdx, hx]; rfl
    rw [← hP] at h15
    have hup := hu.paths
    have n1 : ((P.length : Int) != (n.paths.length : Int)) = false := by rw [hPl]; simp
    repeat (first | refine walkL_true rfl ?_ | refine walkL_false rfl ?_ | refine walkL_seq ?_ | refine walkL_skip ?_ | refine walkL_block ?_ | (refine walkL_region fun K hK => ?_; simp (maxSteps := 4000000) only [go_sem, n1, pathRows_len]; (repeat (first | (refine ⟨_, .lent (hf := h15) (hd := rfl) (hr := rfl), ?_⟩; simp (maxSteps := 4000000) only [go_sem, n1, pathRows_len]) | (refine ⟨_, .given (hf := h15) (hd := rfl) (ha := rfl), ?_⟩; simp (maxSteps := 4000000) only [go_sem, n1, pathRows_len]))); refine hK _ ?_; clear hK K) | refine walkL_nil ?_ | refine walkL_ret ?_ | refine walkL_exit ?_ | refine blockA_here ?_ | refine blockA_other rfl ?_ | refine blockA_ret ?_ | refine blockA_normal ?_ | refine thenA_ret ?_ | refine thenA_exit ?_ | refine thenA_normal ?_)
    clear hP h8 h18 h19
    refine walkL_loopS (fun (i : Nat) => [(9, .d (.i i)), (10, .undef), (11, .undef), (12, .undef), (13, .undef), (14, .undef), (15, .undef)]) (fun _ => []) (fun i => i ≤ P.length) (fun i => P.length - i) 0 ?_ (Nat.zero_le _) ?_
    · simp (maxSteps := 4000000) only [go_sem]
      refine weak_of [] ?_ ?_ rfl rfl <;> simp [lessT, lessM, lessB, AV.less]
      all_goals first | done | rfl
    · intro i hi
      simp (maxSteps := 4000000) only [go_sem]
      repeat (first | refine walkL_seq ?_ | refine walkL_skip ?_ | refine walkL_block ?_ | (refine walkL_region fun K hK => ?_; simp (maxSteps := 4000000) only [go_sem, pathRows_len]; refine hK _ ?_; clear hK K) | refine walkL_nil ?_ | refine walkL_ret ?_ | refine walkL_exit ?_ | refine blockA_here ?_ | refine blockA_other rfl ?_ | refine blockA_ret ?_ | refine blockA_normal ?_ | refine thenA_ret ?_ | refine thenA_exit ?_ | refine thenA_normal ?_)
      refine walkL_cond rfl (fun hb => ?_) (fun hb => ?_)
      · have hlt : i < P.length := by simpa using hb
        have hw : IntKind.i64.wrap ((i : Int) + 1) = ((i + 1 : Nat) : Int) := by rw [wr_small (by omega)]; simp
        obtain ⟨x, hx⟩ : ∃ x, n.paths[i]? = some x := ⟨_, List.getElem?_eq_getElem (by omega)⟩
        have g1 := pathRows_at hx
        have g2 := pathRows_at (hPg i x hx)
        rw [Path.row_eq] at g1 g2
        have hxm := List.mem_of_getElem? hx
        have hol := safe_len hnG rules (scensOf (possL F seen)) (hd0 F).length i hxm
        rw [← hf] at hol
        have h12 := f12o n rules F seen (i : Int) hu hr hs hsl
        have k12 : opnF n rules F seen (i : Int) = (openS (ofPath rules i) (scensOf (possL F seen)) (hd0 F).length, openM (ofPath rules i) (scensOf (possL F seen)) (hd0 F).length, 0) := by
          unfold opnF
          have hi0 : ¬ ((i : Int) < 0) := by omega
          rw [if_neg hi0, if_pos (hru i (by omega) (by omega))]
        rw [k12, Net.cells_eq] at h12
        dsimp only at h12
        have hch := fun h (hh : h < m.length) => closed_hour hg hsi hwe rules (i : Int) hh
        have hcm := fun h t (hh : h < m.length) (ht : t / 60 = h) => closed_min hg hsi hwe rules i x hh ht
        rw [← hf] at hcm
        obtain ⟨A, hA⟩ : ∃ A, A = openS (ofPath rules i) (scensOf (possL F seen)) (hd0 F).length := ⟨_, rfl⟩
        obtain ⟨B, hB⟩ : ∃ B, B = openM (ofPath rules i) (scensOf (possL F seen)) (hd0 F).length := ⟨_, rfl⟩
        have lA : A.length < 2 ^ 30 := by
          have := spansQ_len (fun j => (scensOf (possL F seen)).all fun s => keepsB alwaysB (ofPath rules i) s j) (hd0 F).length
          rw [hA]; unfold openS; omega
        have lB : B.length < 2 ^ 30 := by
          have := spansQ_len (fun j => (scensOf (possL F seen)).any fun s => keepsB everB (ofPath rules i) s j) (hd0 F).length
          rw [hB]; unfold openM; omega
        rw [← hA, ← hB] at h12
        rw [← hA, ← hB] at hch
        obtain ⟨y, hy⟩ : ∃ y, y = f i x := ⟨_, rfl⟩
        rw [← hy] at g2 hol hcm
        have hd : decide ((y.opens.length : Int) > 6) = false := decide_eq_false (by omega)
        have lY : y.opens.length < 2 ^ 30 := by omega
        have lX := hu.opens x hxm
        repeat (first | refine walkL_true rfl ?_ | refine walkL_false rfl ?_ | refine walkL_seq ?_ | refine walkL_skip ?_ | refine walkL_block ?_ | (refine walkL_region fun K hK => ?_; simp (maxSteps := 4000000) only [go_sem, g1, g2, hd, pathRows_len, spanRows_len]; (repeat (first | (refine ⟨_, .lent (hf := h12) (hd := rfl) (hr := rfl), ?_⟩; simp (maxSteps := 4000000) only [go_sem, g1, g2, hd, pathRows_len, spanRows_len]) | (refine ⟨_, .given (hf := h12) (hd := rfl) (ha := rfl), ?_⟩; simp (maxSteps := 4000000) only [go_sem, g1, g2, hd, pathRows_len, spanRows_len]))); refine hK _ ?_; clear hK K) | refine walkL_nil ?_ | refine walkL_ret ?_ | refine walkL_exit ?_ | refine blockA_here ?_ | refine blockA_other rfl ?_ | refine blockA_ret ?_ | refine blockA_normal ?_ | refine thenA_ret ?_ | refine thenA_exit ?_ | refine thenA_normal ?_)
        refine walkL_loopS (fun (h : Nat) => [(13, .d (.i h)), (14, .undef), (15, .undef)]) (fun _ => []) (fun h => h ≤ m.length) (fun h => m.length - h) 0 ?_ (Nat.zero_le _) ?_
        · simp (maxSteps := 4000000) only [go_sem]
          refine weak_of [] ?_ ?_ rfl rfl <;> simp [lessT, lessM, lessB, AV.less]
          all_goals first | done | rfl
        · intro h hhm
          simp (maxSteps := 4000000) only [go_sem]
          repeat (first | refine walkL_seq ?_ | refine walkL_skip ?_ | refine walkL_block ?_ | (refine walkL_region fun K hK => ?_; simp (maxSteps := 4000000) only [go_sem, skyRows_len]; refine hK _ ?_; clear hK K) | refine walkL_nil ?_ | refine walkL_ret ?_ | refine walkL_exit ?_ | refine blockA_here ?_ | refine blockA_other rfl ?_ | refine blockA_ret ?_ | refine blockA_normal ?_ | refine thenA_ret ?_ | refine thenA_exit ?_ | refine thenA_normal ?_)
          refine walkL_cond rfl (fun hb => ?_) (fun hb => ?_)
          · have hlth : h < m.length := by simpa using hb
            have hwh : IntKind.i64.wrap ((h : Int) + 1) = ((h + 1 : Nat) : Int) := by rw [wr_small (by omega)]; simp
            have h20 := f20 rules m (i : Int) h hlth hkl hr (fun r hr' => (hro r hr').2.1)
            have hsA := f21 A (h : Int) lA
            have hsB := f21 B (h : Int) lB
            obtain ⟨c1, c2⟩ := hch h hlth
            have c3 := fun t ht => hcm h t hlth ht
            obtain ⟨o, ho⟩ : ∃ o, o = isOpenF rules m (i : Int) h := ⟨_, rfl⟩
            obtain ⟨a, ha⟩ : ∃ a, a = inSpans A (h : Int) := ⟨_, rfl⟩
            obtain ⟨b, hb'⟩ : ∃ b, b = inSpans B (h : Int) := ⟨_, rfl⟩
            rw [← ha] at hsA c1
            rw [← hb'] at hsB c2
            rw [← ho] at h20 c1 c2 c3
            have w60 : IntKind.i64.wrap (60 * (h : Int)) = ((60 * h : Nat) : Int) := by rw [wr_small (by omega)]; omega
            have w61 : IntKind.i64.wrap (((60 * h : Nat) : Int) + 60) = ((60 * h + 60 : Nat) : Int) := by rw [wr_small (by omega)]; omega
            have hc : (o = false ∧ a = false) ∨ (o = true ∧ b = true) := by
              cases o
              · left
                cases a
                · exact ⟨rfl, rfl⟩
                · exact absurd (c1 rfl) (by decide)
              · exact .inr ⟨rfl, c2 rfl⟩
            rcases hc with ⟨rfl, rfl⟩ | ⟨rfl, rfl⟩
            · repeat (first | refine walkL_true rfl ?_ | refine walkL_false rfl ?_ | refine walkL_seq ?_ | refine walkL_skip ?_ | refine walkL_block ?_ | (refine walkL_region fun K hK => ?_; simp (maxSteps := 4000000) only [go_sem, w60]; (repeat (first | (refine ⟨_, .lent (hf := h20) (hd := rfl) (hr := rfl), ?_⟩; simp (maxSteps := 4000000) only [go_sem, w60]) | (refine ⟨_, .lent (hf := hsA) (hd := rfl) (hr := rfl), ?_⟩; simp (maxSteps := 4000000) only [go_sem, w60]) | (refine ⟨_, .given (hf := h20) (hd := rfl) (ha := rfl), ?_⟩; simp (maxSteps := 4000000) only [go_sem, w60]) | (refine ⟨_, .given (hf := hsA) (hd := rfl) (ha := rfl), ?_⟩; simp (maxSteps := 4000000) only [go_sem, w60]))); refine hK _ ?_; clear hK K) | refine walkL_nil ?_ | refine walkL_ret ?_ | refine walkL_exit ?_ | refine blockA_here ?_ | refine blockA_other rfl ?_ | refine blockA_ret ?_ | refine blockA_normal ?_ | refine thenA_ret ?_ | refine thenA_exit ?_ | refine thenA_normal ?_)
              refine walkL_loopS (fun (j : Nat) => [(15, .d (.i ((60 * h + j : Nat) : Int)))]) (fun _ => []) (fun j => j ≤ 60) (fun j => 60 - j) 0 ?_ (Nat.zero_le _) ?_
              · simp (maxSteps := 4000000) only [go_sem]
                refine weak_of [] ?_ ?_ rfl rfl <;> simp [lessT, lessM, lessB, AV.less]
                all_goals first | done | rfl
              · intro j hj
                simp (maxSteps := 4000000) only [go_sem]
                repeat (first | refine walkL_seq ?_ | refine walkL_skip ?_ | refine walkL_block ?_ | (refine walkL_region fun K hK => ?_; simp (maxSteps := 4000000) only [go_sem, w60, w61]; refine hK _ ?_; clear hK K) | refine walkL_nil ?_ | refine walkL_ret ?_ | refine walkL_exit ?_ | refine blockA_here ?_ | refine blockA_other rfl ?_ | refine blockA_ret ?_ | refine blockA_normal ?_ | refine thenA_ret ?_ | refine thenA_exit ?_ | refine thenA_normal ?_)
                refine walkL_cond rfl (fun hb => ?_) (fun hb => ?_)
                · have hltj : j < 60 := by have := of_decide_eq_true hb; omega
                  have hwj : IntKind.i64.wrap (((60 * h + j : Nat) : Int) + 1) = ((60 * h + (j + 1) : Nat) : Int) := by rw [wr_small (by omega)]; omega
                  have hsY := f21 y.opens ((60 * h + j : Nat) : Int) lY
                  have e0 : inSpans y.opens ((60 * h + j : Nat) : Int) = false := by
                    cases q : inSpans y.opens ((60 * h + j : Nat) : Int)
                    · rfl
                    · exact absurd (c3 (60 * h + j) (by omega) q).1 (by decide)
                  rw [e0] at hsY
                  repeat (first | refine walkL_true rfl ?_ | refine walkL_false rfl ?_ | refine walkL_seq ?_ | refine walkL_skip ?_ | refine walkL_block ?_ | (refine walkL_region fun K hK => ?_; simp (maxSteps := 4000000) only [go_sem, g1, g2, hwj, pathRows_len]; (repeat (first | (refine ⟨_, .lent (hf := hsY) (hd := rfl) (hr := rfl), ?_⟩; simp (maxSteps := 4000000) only [go_sem, g1, g2, hwj, pathRows_len]) | (refine ⟨_, .given (hf := hsY) (hd := rfl) (ha := rfl), ?_⟩; simp (maxSteps := 4000000) only [go_sem, g1, g2, hwj, pathRows_len]))); refine hK _ ?_; clear hK K) | refine walkL_nil ?_ | refine walkL_ret ?_ | refine walkL_exit ?_ | refine blockA_here ?_ | refine blockA_other rfl ?_ | refine blockA_ret ?_ | refine blockA_normal ?_ | refine thenA_ret ?_ | refine thenA_exit ?_ | refine thenA_normal ?_)
                  refine ⟨rfl, j + 1, ?_, hltj, by omega⟩
                  refine weak_of [] ?_ ?_ rfl rfl <;> simp [lessT, lessM, lessB, AV.less]
                · repeat (first | refine walkL_true rfl ?_ | refine walkL_false rfl ?_ | refine walkL_seq ?_ | refine walkL_skip ?_ | refine walkL_block ?_ | (refine walkL_region fun K hK => ?_; simp (maxSteps := 4000000) only [go_sem, hwh]; refine hK _ ?_; clear hK K) | refine walkL_nil ?_ | refine walkL_ret ?_ | refine walkL_exit ?_ | refine blockA_here ?_ | refine blockA_other rfl ?_ | refine blockA_ret ?_ | refine blockA_normal ?_ | refine thenA_ret ?_ | refine thenA_exit ?_ | refine thenA_normal ?_)
                  refine ⟨rfl, h + 1, ?_, hlth, by omega⟩
                  refine weak_of [] ?_ ?_ rfl rfl <;> simp [lessT, lessM, lessB, AV.less]
            · cases a
              all_goals
                repeat (first | refine walkL_true rfl ?_ | refine walkL_false rfl ?_ | refine walkL_seq ?_ | refine walkL_skip ?_ | refine walkL_block ?_ | (refine walkL_region fun K hK => ?_; simp (maxSteps := 4000000) only [go_sem, w60]; (repeat (first | (refine ⟨_, .lent (hf := h20) (hd := rfl) (hr := rfl), ?_⟩; simp (maxSteps := 4000000) only [go_sem, w60]) | (refine ⟨_, .lent (hf := hsA) (hd := rfl) (hr := rfl), ?_⟩; simp (maxSteps := 4000000) only [go_sem, w60]) | (refine ⟨_, .lent (hf := hsB) (hd := rfl) (hr := rfl), ?_⟩; simp (maxSteps := 4000000) only [go_sem, w60]) | (refine ⟨_, .given (hf := h20) (hd := rfl) (ha := rfl), ?_⟩; simp (maxSteps := 4000000) only [go_sem, w60]) | (refine ⟨_, .given (hf := hsA) (hd := rfl) (ha := rfl), ?_⟩; simp (maxSteps := 4000000) only [go_sem, w60]) | (refine ⟨_, .given (hf := hsB) (hd := rfl) (ha := rfl), ?_⟩; simp (maxSteps := 4000000) only [go_sem, w60]))); refine hK _ ?_; clear hK K) | refine walkL_nil ?_ | refine walkL_ret ?_ | refine walkL_exit ?_ | refine blockA_here ?_ | refine blockA_other rfl ?_ | refine blockA_ret ?_ | refine blockA_normal ?_ | refine thenA_ret ?_ | refine thenA_exit ?_ | refine thenA_normal ?_)
                refine walkL_loopS (fun (j : Nat) => [(15, .d (.i ((60 * h + j : Nat) : Int)))]) (fun _ => []) (fun j => j ≤ 60) (fun j => 60 - j) 0 ?_ (Nat.zero_le _) ?_
                · simp (maxSteps := 4000000) only [go_sem]
                  refine weak_of [] ?_ ?_ rfl rfl <;> simp [lessT, lessM, lessB, AV.less]
                  all_goals first | done | rfl
                · intro j hj
                  simp (maxSteps := 4000000) only [go_sem]
                  repeat (first | refine walkL_seq ?_ | refine walkL_skip ?_ | refine walkL_block ?_ | (refine walkL_region fun K hK => ?_; simp (maxSteps := 4000000) only [go_sem, w60, w61]; refine hK _ ?_; clear hK K) | refine walkL_nil ?_ | refine walkL_ret ?_ | refine walkL_exit ?_ | refine blockA_here ?_ | refine blockA_other rfl ?_ | refine blockA_ret ?_ | refine blockA_normal ?_ | refine thenA_ret ?_ | refine thenA_exit ?_ | refine thenA_normal ?_)
                  refine walkL_cond rfl (fun hb => ?_) (fun hb => ?_)
                  · have hltj : j < 60 := by have := of_decide_eq_true hb; omega
                    have hwj : IntKind.i64.wrap (((60 * h + j : Nat) : Int) + 1) = ((60 * h + (j + 1) : Nat) : Int) := by rw [wr_small (by omega)]; omega
                    have hsY := f21 y.opens ((60 * h + j : Nat) : Int) lY
                    have hsX := f21 x.opens ((60 * h + j : Nat) : Int) lX
                    cases q : inSpans y.opens ((60 * h + j : Nat) : Int)
                    · rw [q] at hsY
                      repeat (first | refine walkL_true rfl ?_ | refine walkL_false rfl ?_ | refine walkL_seq ?_ | refine walkL_skip ?_ | refine walkL_block ?_ | (refine walkL_region fun K hK => ?_; simp (maxSteps := 4000000) only [go_sem, g1, g2, hwj, pathRows_len]; (repeat (first | (refine ⟨_, .lent (hf := hsY) (hd := rfl) (hr := rfl), ?_⟩; simp (maxSteps := 4000000) only [go_sem, g1, g2, hwj, pathRows_len]) | (refine ⟨_, .given (hf := hsY) (hd := rfl) (ha := rfl), ?_⟩; simp (maxSteps := 4000000) only [go_sem, g1, g2, hwj, pathRows_len]))); refine hK _ ?_; clear hK K) | refine walkL_nil ?_ | refine walkL_ret ?_ | refine walkL_exit ?_ | refine blockA_here ?_ | refine blockA_other rfl ?_ | refine blockA_ret ?_ | refine blockA_normal ?_ | refine thenA_ret ?_ | refine thenA_exit ?_ | refine thenA_normal ?_)
                      refine ⟨rfl, j + 1, ?_, hltj, by omega⟩
                      refine weak_of [] ?_ ?_ rfl rfl <;> simp [lessT, lessM, lessB, AV.less]
                    · have e0 := (c3 (60 * h + j) (by omega) q).2
                      rw [q] at hsY
                      rw [e0] at hsX
                      repeat (first | refine walkL_true rfl ?_ | refine walkL_false rfl ?_ | refine walkL_seq ?_ | refine walkL_skip ?_ | refine walkL_block ?_ | (refine walkL_region fun K hK => ?_; simp (maxSteps := 4000000) only [go_sem, g1, g2, hwj, pathRows_len]; (repeat (first | (refine ⟨_, .lent (hf := hsY) (hd := rfl) (hr := rfl), ?_⟩; simp (maxSteps := 4000000) only [go_sem, g1, g2, hwj, pathRows_len]) | (refine ⟨_, .lent (hf := hsX) (hd := rfl) (hr := rfl), ?_⟩; simp (maxSteps := 4000000) only [go_sem, g1, g2, hwj, pathRows_len]) | (refine ⟨_, .given (hf := hsY) (hd := rfl) (ha := rfl), ?_⟩; simp (maxSteps := 4000000) only [go_sem, g1, g2, hwj, pathRows_len]) | (refine ⟨_, .given (hf := hsX) (hd := rfl) (ha := rfl), ?_⟩; simp (maxSteps := 4000000) only [go_sem, g1, g2, hwj, pathRows_len]))); refine hK _ ?_; clear hK K) | refine walkL_nil ?_ | refine walkL_ret ?_ | refine walkL_exit ?_ | refine blockA_here ?_ | refine blockA_other rfl ?_ | refine blockA_ret ?_ | refine blockA_normal ?_ | refine thenA_ret ?_ | refine thenA_exit ?_ | refine thenA_normal ?_)
                      refine ⟨rfl, j + 1, ?_, hltj, by omega⟩
                      refine weak_of [] ?_ ?_ rfl rfl <;> simp [lessT, lessM, lessB, AV.less]
                  · repeat (first | refine walkL_true rfl ?_ | refine walkL_false rfl ?_ | refine walkL_seq ?_ | refine walkL_skip ?_ | refine walkL_block ?_ | (refine walkL_region fun K hK => ?_; simp (maxSteps := 4000000) only [go_sem, hwh]; refine hK _ ?_; clear hK K) | refine walkL_nil ?_ | refine walkL_ret ?_ | refine walkL_exit ?_ | refine blockA_here ?_ | refine blockA_other rfl ?_ | refine blockA_ret ?_ | refine blockA_normal ?_ | refine thenA_ret ?_ | refine thenA_exit ?_ | refine thenA_normal ?_)
                    refine ⟨rfl, h + 1, ?_, hlth, by omega⟩
                    refine weak_of [] ?_ ?_ rfl rfl <;> simp [lessT, lessM, lessB, AV.less]
          · have he : h = m.length := by (have : ¬ h < m.length := by simpa using hb); omega
            subst he
            repeat (first | refine walkL_true rfl ?_ | refine walkL_false rfl ?_ | refine walkL_seq ?_ | refine walkL_skip ?_ | refine walkL_block ?_ | (refine walkL_region fun K hK => ?_; simp (maxSteps := 4000000) only [go_sem, hw]; refine hK _ ?_; clear hK K) | refine walkL_nil ?_ | refine walkL_ret ?_ | refine walkL_exit ?_ | refine blockA_here ?_ | refine blockA_other rfl ?_ | refine blockA_ret ?_ | refine blockA_normal ?_ | refine thenA_ret ?_ | refine thenA_exit ?_ | refine thenA_normal ?_)
            refine ⟨rfl, i + 1, ?_, hlt, by omega⟩
            refine weak_of [] ?_ ?_ rfl rfl <;> simp [lessT, lessM, lessB, AV.less]
      · have he : i = P.length := by (have : ¬ i < P.length := by simpa using hb); omega
        subst he
        repeat (first | refine walkL_true rfl ?_ | refine walkL_false rfl ?_ | refine walkL_seq ?_ | refine walkL_skip ?_ | refine walkL_block ?_ | (refine walkL_region fun K hK => ?_; simp (maxSteps := 4000000) only [go_sem]; (repeat (first | (refine ⟨_, .lent (hf := h9) (hd := rfl) (hr := rfl), ?_⟩; simp (maxSteps := 4000000) only [go_sem]) | (refine ⟨_, .given (hf := h9) (hd := rfl) (ha := rfl), ?_⟩; simp (maxSteps := 4000000) only [go_sem]))); refine hK _ ?_; clear hK K) | refine walkL_nil ?_ | refine walkL_ret ?_ | refine walkL_exit ?_ | refine blockA_here ?_ | refine blockA_other rfl ?_ | refine blockA_ret ?_ | refine blockA_normal ?_ | refine thenA_ret ?_ | refine thenA_exit ?_ | refine thenA_normal ?_)
        simp (maxSteps := 4000000) only [go_sem]
  · simp (maxSteps := 4000000) only [go_sem]
    repeat (first | refine walkL_true rfl ?_ | refine walkL_false rfl ?_ | refine walkL_seq ?_ | refine walkL_skip ?_ | refine walkL_block ?_ | (refine walkL_region fun K hK => ?_; simp (maxSteps := 4000000) only [go_sem]; (repeat (first | (refine ⟨_, .lent (hf := h9) (hd := rfl) (hr := rfl), ?_⟩; simp (maxSteps := 4000000) only [go_sem]) | (refine ⟨_, .given (hf := h9) (hd := rfl) (ha := rfl), ?_⟩; simp (maxSteps := 4000000) only [go_sem]))); refine hK _ ?_; clear hK K) | refine walkL_nil ?_ | refine walkL_ret ?_ | refine walkL_exit ?_ | refine blockA_here ?_ | refine blockA_other rfl ?_ | refine blockA_ret ?_ | refine blockA_normal ?_ | refine thenA_ret ?_ | refine thenA_exit ?_ | refine thenA_normal ?_)
    simp (maxSteps := 4000000) only [go_sem]
end Go.Ab
