/- A walk engine over abstract states, and the contracts of the functions that the statement reaches: part 5. -/
import Derived.Test.YtlcbalngfpgjdaaGreatDoorWd
import Derived.ChangeArms
import Derived.Test.YtlcbalngfpgjdaaGreatDoorRows
import Derived.JoinedCond
import Derived.Carry
import Derived.RowKit
import Derived.LaidMore
import Derived.LaidLaws
import Derived.LaidHandle
import Derived.MakeChecks
import Derived.Deep.Strs
set_option linter.unusedVariables false
set_option linter.unusedSimpArgs false
set_option linter.unnecessarySimpa false
namespace Go.Ab
open Go.RowKit Go.Proofs
set_option maxHeartbeats 8000000
set_option maxRecDepth 20000
attribute [local irreducible] WalkL Walk
theorem hid_prog : hidP Tryz.prog = true := by kernel_rfl
attribute [go_sem] hid_prog
def andL (a l : Limits) : Limits := ⟨min a.wind l.wind, min a.rain l.rain, ⟨max a.temp.lo l.temp.lo, min a.temp.hi l.temp.hi⟩⟩
def wideL : Limits := ⟨200, 100, ⟨-50, 50⟩⟩
theorem f158 (a l : Limits) : Fn Tryz.prog 158 [.agg a.row, .agg l.row] (.agg (andL a l).row) := by
  refine fn_walk 36 Tryz.call158 Tryz.func158 rfl (by decide) fun J => ?_
  simp (maxSteps := 4000000) only [go_sem, St.start, Tryz.ntmps158, Tryz.results158, Limits.row]
  repeat (first | refine walkL_seq ?_ | refine walkL_skip ?_ | refine walkL_block ?_ | (refine walkL_region fun K hK => ?_; simp (maxSteps := 4000000) only [go_sem]; refine hK _ ?_; clear hK K) | refine walkL_nil ?_ | refine walkL_ret ?_ | refine walkL_exit ?_ | refine blockA_here ?_ | refine blockA_other rfl ?_ | refine blockA_ret ?_ | refine blockA_normal ?_ | refine thenA_ret ?_ | refine thenA_exit ?_ | refine thenA_normal ?_)
  simp (maxSteps := 4000000) only [go_sem, andL, Limits.row]
def limF (rules : List Rule) (before hour : Int) : Limits := rules.foldl (fun l x => if decide (hour - x.after ≤ before) then andL l x.lim else l) wideL
theorem f140 (o : DV) (rules : List Rule) (before hour : Int) (ha : ∀ x ∈ rules, 0 ≤ x.after ∧ x.after ≤ 48) (hh : 0 ≤ hour ∧ hour ≤ 1000) (hl : rules.length < 2 ^ 30) :
    Fn Tryz.prog 140 [.ptr [o, .sl (ruleRows rules)] 0, .i before, .i hour] (.agg (limF rules before hour).row) := by
  refine fn_walk 32 Tryz.call140 Tryz.func140 rfl (by decide) fun J => ?_
  simp (maxSteps := 4000000) only [go_sem, St.start, Tryz.ntmps140, Tryz.results140]
  repeat (first | refine walkL_seq ?_ | refine walkL_skip ?_ | refine walkL_block ?_ | (refine walkL_region fun K hK => ?_; simp (maxSteps := 4000000) only [go_sem]; refine hK _ ?_; clear hK K) | refine walkL_nil ?_ | refine walkL_ret ?_ | refine walkL_exit ?_ | refine blockA_here ?_ | refine blockA_other rfl ?_ | refine blockA_ret ?_ | refine blockA_normal ?_ | refine thenA_ret ?_ | refine thenA_exit ?_ | refine thenA_normal ?_)
  refine walkL_loopS (fun (i : Nat) => [(16, .d (.i i))]) (fun i => [(7, some (.box ((limF (rules.take i) before hour).row.map AV.d)))]) (fun i => i ≤ rules.length) (fun i => rules.length - i) 0 ?_ (Nat.zero_le _) ?_
  · simp (maxSteps := 4000000) only [go_sem, Limits.row, List.map_cons, List.map_nil]
    refine weak_of [] ?_ ?_ rfl rfl <;> simp [lessT, lessM, lessB, AV.less]
    all_goals first | done | rfl | exact ⟨rfl, rfl, rfl, rfl⟩
  · intro i hi
    obtain ⟨a, ha0⟩ : ∃ a, a = limF (rules.take i) before hour := ⟨_, rfl⟩
    rw [← ha0]
    simp (maxSteps := 4000000) only [go_sem, Limits.row, List.map_cons, List.map_nil]
    repeat (first | refine walkL_seq ?_ | refine walkL_skip ?_ | refine walkL_block ?_ | (refine walkL_region fun K hK => ?_; simp (maxSteps := 4000000) only [go_sem]; refine hK _ ?_; clear hK K) | refine walkL_nil ?_ | refine walkL_ret ?_ | refine walkL_exit ?_ | refine blockA_here ?_ | refine blockA_other rfl ?_ | refine blockA_ret ?_ | refine blockA_normal ?_ | refine thenA_ret ?_ | refine thenA_exit ?_ | refine thenA_normal ?_)
    refine walkL_cond rfl (fun hb => ?_) (fun hb => ?_)
    · have hlt : i < rules.length := by simpa using hb
      have hw : IntKind.i64.wrap ((i : Int) + 1) = ((i + 1 : Nat) : Int) := by rw [wr_small (by omega)]; simp
      obtain ⟨x, hx⟩ : ∃ x, rules[i]? = some x := ⟨_, List.getElem?_eq_getElem hlt⟩
      have g1 := ruleRows_at hx
      have hax := ha x (List.mem_of_getElem? hx)
      have w1 : IntKind.i64.wrap (hour - x.after) = hour - x.after := wr_small (by omega)
      have n1 : limF (rules.take (i + 1)) before hour = if decide (hour - x.after ≤ before) then andL a x.lim else a := by rw [ha0]; exact foldl_take_succ _ _ _ _ _ hx
      have c1 := f158 a x.lim
      simp only [Limits.row] at c1
      cases q : decide (hour - x.after ≤ before)
      all_goals
        rw [q] at n1
        simp only [Bool.false_eq_true, if_false, if_true] at n1
        repeat (first | refine walkL_true rfl ?_ | refine walkL_false rfl ?_ | refine walkL_seq ?_ | refine walkL_skip ?_ | refine walkL_block ?_ | (refine walkL_region fun K hK => ?_; simp (maxSteps := 4000000) only [go_sem, g1, Rule.row, w1, q, hw]; (repeat (first | (refine ⟨_, .lent (hf := c1) (hd := rfl) (hr := rfl), ?_⟩; simp (maxSteps := 4000000) only [go_sem, g1, Rule.row, w1, q, hw]) | (refine ⟨_, .given (hf := c1) (hd := rfl) (ha := rfl), ?_⟩; simp (maxSteps := 4000000) only [go_sem, g1, Rule.row, w1, q, hw]))); refine hK _ ?_; clear hK K) | refine walkL_nil ?_ | refine walkL_ret ?_ | refine walkL_exit ?_ | refine blockA_here ?_ | refine blockA_other rfl ?_ | refine blockA_ret ?_ | refine blockA_normal ?_ | refine thenA_ret ?_ | refine thenA_exit ?_ | refine thenA_normal ?_)
        refine ⟨rfl, i + 1, ?_, hlt, by omega⟩
        rw [n1]
        refine weak_of [] ?_ ?_ rfl rfl <;> simp [lessT, lessM, lessB, AV.less]
        all_goals first | done | rfl | simp [Limits.row]
    · have he : i = rules.length := by (have : ¬ i < rules.length := by simpa using hb); omega
      subst he
      rw [List.take_length] at ha0
      rw [← ha0]
      repeat (first | refine walkL_seq ?_ | refine walkL_skip ?_ | refine walkL_block ?_ | (refine walkL_region fun K hK => ?_; simp (maxSteps := 4000000) only [go_sem]; refine hK _ ?_; clear hK K) | refine walkL_nil ?_ | refine walkL_ret ?_ | refine walkL_exit ?_ | refine blockA_here ?_ | refine blockA_other rfl ?_ | refine blockA_ret ?_ | refine blockA_normal ?_ | refine thenA_ret ?_ | refine thenA_exit ?_ | refine thenA_normal ?_)
      simp (maxSteps := 4000000) only [go_sem, Limits.row]
def keepsB (kf : Limits → Hour → Bool) (rules : List Rule) (s : List Hour) (hour : Nat) : Bool := (List.range (hour + 1)).all fun b => kf (limF rules (b : Int) (hour : Int)) (hourAt s (b : Int))
theorem range_all_succ (q : Nat → Bool) (n : Nat) : (List.range (n + 1)).all q = ((List.range n).all q && q n) := by
  rw [List.range_succ, List.all_append]; simp
theorem range_all_bad {q : Nat → Bool} {i n : Nat} (hi : i < n) (h : q i = false) : (List.range n).all q = false := by
  cases hc : (List.range n).all q with
  | false => rfl
  | true => rw [List.all_eq_true] at hc; have := hc i (List.mem_range.2 hi); rw [h] at this; cases this
theorem f92 (o : DV) (rules : List Rule) (s : List Hour) (hour : Nat) (g : Nat) (kf : Limits → Hour → Bool) (hk : ∀ L h, Fn Tryz.prog g [.agg L.row, .agg h.row] (.bool (kf L h))) (ha : ∀ x ∈ rules, 0 ≤ x.after ∧ x.after ≤ 48) (hh : hour < s.length) (hs : s.length ≤ 48) (hl : rules.length < 2 ^ 30) :
    Fn Tryz.prog 92 [.ptr [o, .sl (ruleRows rules)] 0, .sl (hourRows s), .i hour, .fn g []] (.bool (keepsB kf rules s hour)) := by
  have w0 : IntKind.i64.wrap ((hour : Int) + 1) = ((hour + 1 : Nat) : Int) := by rw [wr_small (by omega)]; simp
  refine fn_walk 27 Tryz.call92 Tryz.func92 rfl (by decide) fun J => ?_
  simp (maxSteps := 4000000) only [go_sem, St.start, Tryz.ntmps92, Tryz.results92]
  repeat (first | refine walkL_seq ?_ | refine walkL_skip ?_ | refine walkL_block ?_ | (refine walkL_region fun K hK => ?_; simp (maxSteps := 4000000) only [go_sem, w0]; refine hK _ ?_; clear hK K) | refine walkL_nil ?_ | refine walkL_ret ?_ | refine walkL_exit ?_ | refine blockA_here ?_ | refine blockA_other rfl ?_ | refine blockA_ret ?_ | refine blockA_normal ?_ | refine thenA_ret ?_ | refine thenA_exit ?_ | refine thenA_normal ?_)
  refine walkL_loopS (fun (i : Nat) => [(12, .d (.i i)), (9, .undef)]) (fun _ => []) (fun i => i ≤ hour + 1 ∧ ((List.range i).all fun b => kf (limF rules (b : Int) (hour : Int)) (hourAt s (b : Int))) = true) (fun i => hour + 1 - i) 0 ?_ ⟨Nat.zero_le _, rfl⟩ ?_
  · simp (maxSteps := 4000000) only [go_sem]
    refine weak_of [] ?_ ?_ rfl rfl <;> simp [lessT, lessM, lessB, AV.less]
  · intro i ⟨hi, hall⟩
    simp (maxSteps := 4000000) only [go_sem]
    repeat (first | refine walkL_seq ?_ | refine walkL_skip ?_ | refine walkL_block ?_ | (refine walkL_region fun K hK => ?_; simp (maxSteps := 4000000) only [go_sem]; refine hK _ ?_; clear hK K) | refine walkL_nil ?_ | refine walkL_ret ?_ | refine walkL_exit ?_ | refine blockA_here ?_ | refine blockA_other rfl ?_ | refine blockA_ret ?_ | refine blockA_normal ?_ | refine thenA_ret ?_ | refine thenA_exit ?_ | refine thenA_normal ?_)
    refine walkL_cond rfl (fun hb => ?_) (fun hb => ?_)
    · have hlt : i < hour + 1 := by have := of_decide_eq_true hb; omega
      have hw : IntKind.i64.wrap ((i : Int) + 1) = ((i + 1 : Nat) : Int) := by rw [wr_small (by omega)]; simp
      have c1 := f140 o rules i hour ha ⟨by omega, by omega⟩ hl
      have g1 := hourRows_at (hourAt_get (l := s) (i := (i : Int)) ⟨by omega, by omega⟩)
      rw [Int.toNat_natCast] at g1
      have c2 := hk (limF rules i hour) (hourAt s (i : Int))
      have n1 := range_all_succ (fun b => kf (limF rules (b : Int) (hour : Int)) (hourAt s (b : Int))) i
      rw [hall, Bool.true_and] at n1
      cases q : kf (limF rules i hour) (hourAt s (i : Int))
      · have e : keepsB kf rules s hour = false := range_all_bad hlt q
        rw [e]
        rw [q] at c2
        rw [Hour.row] at c2 g1
        repeat (first | refine walkL_true rfl ?_ | refine walkL_false rfl ?_ | refine walkL_seq ?_ | refine walkL_skip ?_ | refine walkL_block ?_ | (refine walkL_region fun K hK => ?_; simp (maxSteps := 4000000) only [go_sem]; refine hK _ ?_; clear hK K) | refine walkL_nil ?_ | refine walkL_ret ?_ | refine walkL_exit ?_ | refine blockA_here ?_ | refine blockA_other rfl ?_ | refine blockA_ret ?_ | refine blockA_normal ?_ | refine thenA_ret ?_ | refine thenA_exit ?_ | refine thenA_normal ?_)
        refine walkL_drawn (by kernel_rfl) (by kernel_rfl) fun K hK => ?_
        simp (maxSteps := 4000000) only [go_sem]
        refine ⟨_, .fn (hf := c1) (hd := rfl) (hr := .inr rfl), ?_⟩
        simp (maxSteps := 4000000) only [go_sem, g1]
        refine ⟨_, .fn (hf := c2) (hd := rfl) (hr := .inr rfl), ?_⟩
        simp (maxSteps := 4000000) only [go_sem]
        refine ⟨by kernel_rfl, hK _ ?_⟩
        clear hK K
        repeat (first | refine walkL_true rfl ?_ | refine walkL_false rfl ?_ | refine walkL_seq ?_ | refine walkL_skip ?_ | refine walkL_block ?_ | (refine walkL_region fun K hK => ?_; simp (maxSteps := 4000000) only [go_sem]; refine hK _ ?_; clear hK K) | refine walkL_nil ?_ | refine walkL_ret ?_ | refine walkL_exit ?_ | refine blockA_here ?_ | refine blockA_other rfl ?_ | refine blockA_ret ?_ | refine blockA_normal ?_ | refine thenA_ret ?_ | refine thenA_exit ?_ | refine thenA_normal ?_)
        simp (maxSteps := 4000000) only [go_sem]
      · rw [q] at c2 n1
        rw [Hour.row] at c2 g1
        repeat (first | refine walkL_true rfl ?_ | refine walkL_false rfl ?_ | refine walkL_seq ?_ | refine walkL_skip ?_ | refine walkL_block ?_ | (refine walkL_region fun K hK => ?_; simp (maxSteps := 4000000) only [go_sem]; refine hK _ ?_; clear hK K) | refine walkL_nil ?_ | refine walkL_ret ?_ | refine walkL_exit ?_ | refine blockA_here ?_ | refine blockA_other rfl ?_ | refine blockA_ret ?_ | refine blockA_normal ?_ | refine thenA_ret ?_ | refine thenA_exit ?_ | refine thenA_normal ?_)
        refine walkL_drawn (by kernel_rfl) (by kernel_rfl) fun K hK => ?_
        simp (maxSteps := 4000000) only [go_sem]
        refine ⟨_, .fn (hf := c1) (hd := rfl) (hr := .inr rfl), ?_⟩
        simp (maxSteps := 4000000) only [go_sem, g1]
        refine ⟨_, .fn (hf := c2) (hd := rfl) (hr := .inr rfl), ?_⟩
        simp (maxSteps := 4000000) only [go_sem]
        refine ⟨by kernel_rfl, hK _ ?_⟩
        clear hK K
        repeat (first | refine walkL_true rfl ?_ | refine walkL_false rfl ?_ | refine walkL_seq ?_ | refine walkL_skip ?_ | refine walkL_block ?_ | (refine walkL_region fun K hK => ?_; simp (maxSteps := 4000000) only [go_sem, hw]; refine hK _ ?_; clear hK K) | refine walkL_nil ?_ | refine walkL_ret ?_ | refine walkL_exit ?_ | refine blockA_here ?_ | refine blockA_other rfl ?_ | refine blockA_ret ?_ | refine blockA_normal ?_ | refine thenA_ret ?_ | refine thenA_exit ?_ | refine thenA_normal ?_)
        refine ⟨rfl, i + 1, ?_, ⟨hlt, n1⟩, by omega⟩
        refine weak_of [] ?_ ?_ rfl rfl <;> simp [lessT, lessM, lessB, AV.less]
    · have he : i = hour + 1 := by have := of_decide_eq_false hb; omega
      subst he
      have e : keepsB kf rules s hour = true := hall
      rw [e]
      repeat (first | refine walkL_seq ?_ | refine walkL_skip ?_ | refine walkL_block ?_ | (refine walkL_region fun K hK => ?_; simp (maxSteps := 4000000) only [go_sem]; refine hK _ ?_; clear hK K) | refine walkL_nil ?_ | refine walkL_ret ?_ | refine walkL_exit ?_ | refine blockA_here ?_ | refine blockA_other rfl ?_ | refine blockA_ret ?_ | refine blockA_normal ?_ | refine thenA_ret ?_ | refine thenA_exit ?_ | refine thenA_normal ?_)
      simp (maxSteps := 4000000) only [go_sem]
theorem f91 (o : DV) (rules : List Rule) (s : List Hour) (hour : Nat) (ha : ∀ x ∈ rules, 0 ≤ x.after ∧ x.after ≤ 48) (hh : hour < s.length) (hs : s.length ≤ 48) (hl : rules.length < 2 ^ 30) :
    Fn Tryz.prog 91 [.sl (hourRows s), .i hour, .ptr [.ptr [o, .sl (ruleRows rules)] 0] 0] (.bool (keepsB alwaysB rules s hour)) := by
  have c := f92 o rules s hour 63 alwaysB f63 ha hh hs hl
  refine fn_walk 10 Tryz.call91 Tryz.func91 rfl (by decide) fun J => ?_
  simp (maxSteps := 4000000) only [go_sem, St.start, Tryz.ntmps91, Tryz.results91]
  repeat (first | refine walkL_seq ?_ | refine walkL_skip ?_ | refine walkL_block ?_ | (refine walkL_region fun K hK => ?_; simp (maxSteps := 4000000) only [go_sem]; (repeat (first | (refine ⟨_, .lent (hf := c) (hd := rfl) (hr := rfl), ?_⟩; simp (maxSteps := 4000000) only [go_sem]) | (refine ⟨_, .given (hf := c) (hd := rfl) (ha := rfl), ?_⟩; simp (maxSteps := 4000000) only [go_sem]))); refine hK _ ?_; clear hK K) | refine walkL_nil ?_ | refine walkL_ret ?_ | refine walkL_exit ?_ | refine blockA_here ?_ | refine blockA_other rfl ?_ | refine blockA_ret ?_ | refine blockA_normal ?_ | refine thenA_ret ?_ | refine thenA_exit ?_ | refine thenA_normal ?_)
  simp (maxSteps := 4000000) only [go_sem]
theorem f93 (o : DV) (rules : List Rule) (s : List Hour) (hour : Nat) (ha : ∀ x ∈ rules, 0 ≤ x.after ∧ x.after ≤ 48) (hh : hour < s.length) (hs : s.length ≤ 48) (hl : rules.length < 2 ^ 30) :
    Fn Tryz.prog 93 [.sl (hourRows s), .i hour, .ptr [.ptr [o, .sl (ruleRows rules)] 0] 0] (.bool (keepsB everB rules s hour)) := by
  have c := f92 o rules s hour 66 everB f66 ha hh hs hl
  refine fn_walk 10 Tryz.call93 Tryz.func93 rfl (by decide) fun J => ?_
  simp (maxSteps := 4000000) only [go_sem, St.start, Tryz.ntmps93, Tryz.results93]
  repeat (first | refine walkL_seq ?_ | refine walkL_skip ?_ | refine walkL_block ?_ | (refine walkL_region fun K hK => ?_; simp (maxSteps := 4000000) only [go_sem]; (repeat (first | (refine ⟨_, .lent (hf := c) (hd := rfl) (hr := rfl), ?_⟩; simp (maxSteps := 4000000) only [go_sem]) | (refine ⟨_, .given (hf := c) (hd := rfl) (ha := rfl), ?_⟩; simp (maxSteps := 4000000) only [go_sem]))); refine hK _ ?_; clear hK K) | refine walkL_nil ?_ | refine walkL_ret ?_ | refine walkL_exit ?_ | refine blockA_here ?_ | refine blockA_other rfl ?_ | refine blockA_ret ?_ | refine blockA_normal ?_ | refine thenA_ret ?_ | refine thenA_exit ?_ | refine thenA_normal ?_)
  simp (maxSteps := 4000000) only [go_sem]
def openS (rules : List Rule) (S : List (List Hour)) (H : Nat) : List Span := spansQ (fun i => S.all fun s => keepsB alwaysB rules s i) H
def openM (rules : List Rule) (S : List (List Hour)) (H : Nat) : List Span := spansQ (fun i => S.any fun s => keepsB everB rules s i) H
theorem f41 (N : List Int) (S : List (List Hour)) (H : Nat) (rules : List Rule) (ha : ∀ x ∈ rules, 0 ≤ x.after ∧ x.after ≤ 48) (hS : ∀ s ∈ S, s.length = H) (hH : H ≤ 48) (hSl : S.length < 2 ^ 30) (hl : rules.length < 2 ^ 30) :
    Fn Tryz.prog 41 [.ptr [outV N S H, .sl (ruleRows rules)] 0] (.tup [.sl (spanRows (openS rules S H)), .sl (spanRows (openM rules S H))]) := by
  have h41 := f61 N S H 91 [.ptr [.ptr [outV N S H, .sl (ruleRows rules)] 0] 0] (fun s i => keepsB alwaysB rules s i) (fun s hs i hi => f91 _ rules s i ha (by rw [hS s hs]; exact hi) (by rw [hS s hs]; exact hH) hl) hSl (by omega)
  have h44 := f64 N S H 93 [.ptr [.ptr [outV N S H, .sl (ruleRows rules)] 0] 0] (fun s i => keepsB everB rules s i) (fun s hs i hi => f93 _ rules s i ha (by rw [hS s hs]; exact hi) (by rw [hS s hs]; exact hH) hl) hSl (by omega)
  change FnS Tryz.prog 61 _ 48 2 (spanRows (openS rules S H)) at h41
  change FnS Tryz.prog 64 _ 48 2 (spanRows (openM rules S H)) at h44
  obtain ⟨A, hA⟩ : ∃ A, A = openS rules S H := ⟨_, rfl⟩
  obtain ⟨B, hB⟩ : ∃ B, B = openM rules S H := ⟨_, rfl⟩
  rw [← hA] at h41 ⊢
  rw [← hB] at h44 ⊢
  rw [outV] at h41 h44
  refine fn_walk 18 Tryz.call41 Tryz.func41 rfl (by decide) fun J => ?_
  simp (maxSteps := 4000000) only [go_sem, St.start, Tryz.ntmps41, Tryz.results41, outV]
  repeat (first | refine walkL_seq ?_ | refine walkL_skip ?_ | refine walkL_block ?_ | (refine walkL_region fun K hK => ?_; simp (maxSteps := 4000000) only [go_sem]; refine hK _ ?_; clear hK K) | refine walkL_nil ?_ | refine walkL_ret ?_ | refine walkL_exit ?_ | refine blockA_here ?_ | refine blockA_other rfl ?_ | refine blockA_ret ?_ | refine blockA_normal ?_ | refine thenA_ret ?_ | refine thenA_exit ?_ | refine thenA_normal ?_)
  refine walkL_region fun K hK => ?_
  simp (maxSteps := 4000000) only [go_sem]
  refine ⟨_, .lentS (hdst := rfl) (hf := h41) (hd := rfl) (hr := by first | exact rowsFlat_int _ | exact rowsFlat_hour _ | exact rowsFlat_sight _ | exact rowsFlat_sky _ | exact rowsFlat_span _ | exact rowsFlat_bool _) (hfr := rfl), ?_⟩
  simp (maxSteps := 4000000) only [go_sem]
  refine hK _ ?_
  clear hK K
  repeat (first | refine walkL_seq ?_ | refine walkL_skip ?_ | refine walkL_block ?_ | (refine walkL_region fun K hK => ?_; simp (maxSteps := 4000000) only [go_sem]; refine hK _ ?_; clear hK K) | refine walkL_nil ?_ | refine walkL_ret ?_ | refine walkL_exit ?_ | refine blockA_here ?_ | refine blockA_other rfl ?_ | refine blockA_ret ?_ | refine blockA_normal ?_ | refine thenA_ret ?_ | refine thenA_exit ?_ | refine thenA_normal ?_)
  refine walkL_region fun K hK => ?_
  simp (maxSteps := 4000000) only [go_sem]
  refine ⟨_, .lentS (hdst := rfl) (hf := h44) (hd := rfl) (hr := by first | exact rowsFlat_int _ | exact rowsFlat_hour _ | exact rowsFlat_sight _ | exact rowsFlat_sky _ | exact rowsFlat_span _ | exact rowsFlat_bool _) (hfr := rfl), ?_⟩
  simp (maxSteps := 4000000) only [go_sem]
  refine hK _ ?_
  clear hK K
  repeat (first | refine walkL_seq ?_ | refine walkL_skip ?_ | refine walkL_block ?_ | (refine walkL_region fun K hK => ?_; simp (maxSteps := 4000000) only [go_sem]; refine hK _ ?_; clear hK K) | refine walkL_nil ?_ | refine walkL_ret ?_ | refine walkL_exit ?_ | refine blockA_here ?_ | refine blockA_other rfl ?_ | refine blockA_ret ?_ | refine blockA_normal ?_ | refine thenA_ret ?_ | refine thenA_exit ?_ | refine thenA_normal ?_)
  simp (maxSteps := 4000000) only [go_sem]
def ofPath (l : List Rule) (p : Int) : List Rule := l.filter fun x => x.path == p
theorem f47 (ro : List DV) (l : List Rule) (p : Int) (hl : l.length < 2 ^ 30) : Fn Tryz.prog 47 [.ptr [.ptr ro 0, .sl (ruleRows l)] 0, .i p] (.ptr [.ptr ro 0, .sl (ruleRows (ofPath l p))] 0) := by
  have h94 := f97 l hl
  have ef : (l.filter fun x => !(x.path != p)) = ofPath l p := by unfold ofPath; congr 1; funext x; simp [bne]
  rcases f96 l 98 [.ptr [.i p] 0] (fun x => x.path != p) (fun x _ => f98 x p) hl with ⟨hno, h93⟩ | ⟨k, X, x1, x2, x3, x4, h93⟩
  · have e : ofPath l p = l := by
      rw [← ef]
      exact List.filter_eq_self.2 fun x hx => by rw [hno x hx]; rfl
    rw [e]
    refine fn_walk 18 Tryz.call47 Tryz.func47 rfl (by decide) fun J => ?_
    simp (maxSteps := 4000000) only [go_sem, St.start, Tryz.ntmps47, Tryz.results47]
    repeat (first | refine walkL_seq ?_ | refine walkL_skip ?_ | refine walkL_block ?_ | (refine walkL_region fun K hK => ?_; simp (maxSteps := 4000000) only [go_sem]; refine hK _ ?_; clear hK K) | refine walkL_nil ?_ | refine walkL_ret ?_ | refine walkL_exit ?_ | refine blockA_here ?_ | refine blockA_other rfl ?_ | refine blockA_ret ?_ | refine blockA_normal ?_ | refine thenA_ret ?_ | refine thenA_exit ?_ | refine thenA_normal ?_)
    refine walkL_drawn (by kernel_rfl) (by kernel_rfl) fun K hK => ?_
    simp (maxSteps := 4000000) only [go_sem]
    refine ⟨_, .fnS (hdst := rfl) (hf := h94) (hd := rfl) (hr := .inr rfl) (hfr := rfl), ?_⟩
    simp (maxSteps := 4000000) only [go_sem]
    refine ⟨_, .inPlaceR (n := 13) (rd := [3]) (hf := h93) (hn := rfl) (hb := rfl) (hla := rfl) (ha := argG_all (by repeat (first | exact trivial | refine And.intro ?_ ?_ | exact argG_ren rfl | exact argG_deep rfl rfl))) (hx := by first | decide | simp [AV.refsAll, AV.refs, AV.refs.AV.refss]) (hrx := by first | decide | simp [AV.refsAll, AV.refs, AV.refs.AV.refss]) (hrd := by decide) (hsh := by intro n hn row hrow k hk; simp at hn; subst hn; simp at hrow; subst hrow; simp [AV.refs, AV.refs.AV.refss] at hk) (hfl := ⟨rfl, by simp only [Blk.flatB, List.all_eq_true]; exact rowsFlat_rule l⟩), ?_⟩
    simp (maxSteps := 4000000) only [go_sem]
    refine ⟨by kernel_rfl, hK _ ?_⟩
    clear hK K
    repeat (first | refine walkL_seq ?_ | refine walkL_skip ?_ | refine walkL_block ?_ | (refine walkL_region fun K hK => ?_; simp (maxSteps := 4000000) only [go_sem]; refine hK _ ?_; clear hK K) | refine walkL_nil ?_ | refine walkL_ret ?_ | refine walkL_exit ?_ | refine blockA_here ?_ | refine blockA_other rfl ?_ | refine blockA_ret ?_ | refine blockA_normal ?_ | refine thenA_ret ?_ | refine thenA_exit ?_ | refine thenA_normal ?_)
    simp (maxSteps := 4000000) only [go_sem]
  · rw [ef] at x1
    have x5 : (List.drop 0 X).take k = ruleRows (ofPath l p) := by simpa using x1
    refine fn_walk 18 Tryz.call47 Tryz.func47 rfl (by decide) fun J => ?_
    simp (maxSteps := 4000000) only [go_sem, St.start, Tryz.ntmps47, Tryz.results47]
    repeat (first | refine walkL_seq ?_ | refine walkL_skip ?_ | refine walkL_block ?_ | (refine walkL_region fun K hK => ?_; simp (maxSteps := 4000000) only [go_sem]; refine hK _ ?_; clear hK K) | refine walkL_nil ?_ | refine walkL_ret ?_ | refine walkL_exit ?_ | refine blockA_here ?_ | refine blockA_other rfl ?_ | refine blockA_ret ?_ | refine blockA_normal ?_ | refine thenA_ret ?_ | refine thenA_exit ?_ | refine thenA_normal ?_)
    refine walkL_drawn (by kernel_rfl) (by kernel_rfl) fun K hK => ?_
    simp (maxSteps := 4000000) only [go_sem]
    refine ⟨_, .fnS (hdst := rfl) (hf := h94) (hd := rfl) (hr := .inr rfl) (hfr := rfl), ?_⟩
    simp (maxSteps := 4000000) only [go_sem]
    refine ⟨_, .inPlaceR (n := 13) (rd := [3]) (hf := h93) (hn := rfl) (hb := rfl) (hla := rfl) (ha := argG_all (by repeat (first | exact trivial | refine And.intro ?_ ?_ | exact argG_ren rfl | exact argG_deep rfl rfl))) (hx := by first | decide | simp [AV.refsAll, AV.refs, AV.refs.AV.refss]) (hrx := by first | decide | simp [AV.refsAll, AV.refs, AV.refs.AV.refss]) (hrd := by decide) (hsh := by intro n hn row hrow k hk; simp at hn; subst hn; simp at hrow; subst hrow; simp [AV.refs, AV.refs.AV.refss] at hk) (hfl := ⟨rfl, x4⟩), ?_⟩
    simp (maxSteps := 4000000) only [go_sem]
    refine ⟨by kernel_rfl, hK _ ?_⟩
    clear hK K
    repeat (first | refine walkL_seq ?_ | refine walkL_skip ?_ | refine walkL_block ?_ | (refine walkL_region fun K hK => ?_; simp (maxSteps := 4000000) only [go_sem]; refine hK _ ?_; clear hK K) | refine walkL_nil ?_ | refine walkL_ret ?_ | refine walkL_exit ?_ | refine blockA_here ?_ | refine blockA_other rfl ?_ | refine blockA_ret ?_ | refine blockA_normal ?_ | refine thenA_ret ?_ | refine thenA_exit ?_ | refine thenA_normal ?_)
    simp (maxSteps := 4000000) only [go_sem, x1, x2, x5, Nat.zero_add]
end Go.Ab
namespace Go.Ab
open Go.RowKit Go.Proofs
set_option maxHeartbeats 8000000
set_option maxRecDepth 20000
attribute [local irreducible] WalkL Walk
def pathRows (l : List Path) : List (List DV) := l.map Path.row
theorem pathRows_len (l : List Path) : (pathRows l).length = l.length := by simp [pathRows]
theorem pathRows_at {l : List Path} {i : Nat} {x : Path} (h : l[i]? = some x) : (pathRows l)[i]? = some x.row := by simp [pathRows, h]
theorem pathRows_head (l : List Path) : headIs 8 (pathRows l) = true := by cases l <;> rfl
theorem pathRows_set (l : List Path) (k : Nat) (x : Path) : (pathRows l).set k x.row = pathRows (l.set k x) := by simp [pathRows, List.map_set]
attribute [go_sem] pathRows_len pathRows_head
theorem Path.row_eq (p : Path) : p.row = [.i p.frm, .i p.to, .i p.grade, .i p.time.lo, .i p.time.hi, .i p.snow.lo, .i p.snow.hi, .sl (spanRows p.opens)] := rfl
theorem Net.cells_eq (n : Net) : n.cells = [.i n.places, .sl (pathRows n.paths)] := rfl
theorem f46 (l : List Path) (hl : l.length < 2 ^ 30) : FnS Tryz.prog 46 [.sl (pathRows l)] 56 8 (pathRows l) := by
  have h1 : l.length ≤ 549755813888 := by omega
  have h2 : 0 + l.length ≤ 549755813888 := by omega
  cases l with
  | nil =>
    have e0 : pathRows [] = [] := rfl
    have e1 : ([] : List (List DV)).isEmpty = true := rfl
    rw [e0]
    refine fnS_walk 8 Tryz.call46 Tryz.func46 rfl (by decide) fun J => ?_
    simp (maxSteps := 4000000) only [go_sem, St.start, Tryz.ntmps46, Tryz.results46]
    repeat (first | refine walkL_seq ?_ | refine walkL_skip ?_ | refine walkL_block ?_ | (refine walkL_region fun K hK => ?_; simp (maxSteps := 4000000) only [go_sem, e1]; refine hK _ ?_; clear hK K) | refine walkL_nil ?_ | refine walkL_ret ?_ | refine walkL_exit ?_ | refine blockA_here ?_ | refine blockA_other rfl ?_ | refine blockA_ret ?_ | refine blockA_normal ?_ | refine thenA_ret ?_ | refine thenA_exit ?_ | refine thenA_normal ?_)
    refine walkL_any rfl ?_ ?_
    · repeat (first | refine walkL_seq ?_ | refine walkL_skip ?_ | refine walkL_block ?_ | (refine walkL_region fun K hK => ?_; simp (maxSteps := 4000000) only [go_sem]; refine hK _ ?_; clear hK K) | refine walkL_nil ?_ | refine walkL_ret ?_ | refine walkL_exit ?_ | refine blockA_here ?_ | refine blockA_other rfl ?_ | refine blockA_ret ?_ | refine blockA_normal ?_ | refine thenA_ret ?_ | refine thenA_exit ?_ | refine thenA_normal ?_)
      simp (maxSteps := 4000000) only [go_sem]
    · repeat (first | refine walkL_seq ?_ | refine walkL_skip ?_ | refine walkL_block ?_ | (refine walkL_region fun K hK => ?_; simp (maxSteps := 4000000) only [go_sem, List.nil_append, List.length_nil]; refine hK _ ?_; clear hK K) | refine walkL_nil ?_ | refine walkL_ret ?_ | refine walkL_exit ?_ | refine blockA_here ?_ | refine blockA_other rfl ?_ | refine blockA_ret ?_ | refine blockA_normal ?_ | refine thenA_ret ?_ | refine thenA_exit ?_ | refine thenA_normal ?_)
      simp (maxSteps := 4000000) only [go_sem]
  | cons a l =>
    have hne : (pathRows (a :: l)).isEmpty = false := rfl
    obtain ⟨L, hL⟩ : ∃ L, L = a :: l := ⟨_, rfl⟩
    rw [← hL] at h1 h2 hne ⊢
    refine fnS_walk 8 Tryz.call46 Tryz.func46 rfl (by decide) fun J => ?_
    simp (maxSteps := 4000000) only [go_sem, St.start, Tryz.ntmps46, Tryz.results46]
    repeat (first | refine walkL_true rfl ?_ | refine walkL_false rfl ?_ | refine walkL_seq ?_ | refine walkL_skip ?_ | refine walkL_block ?_ | (refine walkL_region fun K hK => ?_; simp (maxSteps := 4000000) only [go_sem, hne]; refine hK _ ?_; clear hK K) | refine walkL_nil ?_ | refine walkL_ret ?_ | refine walkL_exit ?_ | refine blockA_here ?_ | refine blockA_other rfl ?_ | refine blockA_ret ?_ | refine blockA_normal ?_ | refine thenA_ret ?_ | refine thenA_exit ?_ | refine thenA_normal ?_)
    repeat (first | refine walkL_seq ?_ | refine walkL_skip ?_ | refine walkL_block ?_ | (refine walkL_region fun K hK => ?_; simp (maxSteps := 4000000) only [go_sem, h1, h2, List.nil_append, List.length_nil]; refine hK _ ?_; clear hK K) | refine walkL_nil ?_ | refine walkL_ret ?_ | refine walkL_exit ?_ | refine blockA_here ?_ | refine blockA_other rfl ?_ | refine blockA_ret ?_ | refine blockA_normal ?_ | refine thenA_ret ?_ | refine thenA_exit ?_ | refine thenA_normal ?_)
    simp (maxSteps := 4000000) only [go_sem]
def inSpans (l : List Span) (n : Int) : Bool := l.any fun s => withinB n s.lo s.hi
theorem f100 (s : Span) (n : Int) : Fn Tryz.prog 100 [.agg s.row, .ptr [.i n] 0] (.bool (withinB n s.lo s.hi)) := by
  have h := f87 n s.lo s.hi
  refine fn_walk 10 Tryz.call100 Tryz.func100 rfl (by decide) fun J => ?_
  simp (maxSteps := 4000000) only [go_sem, St.start, Tryz.ntmps100, Tryz.results100, Span.row]
  repeat (first | refine walkL_seq ?_ | refine walkL_skip ?_ | refine walkL_block ?_ | (refine walkL_region fun K hK => ?_; simp (maxSteps := 4000000) only [go_sem]; (repeat (first | (refine ⟨_, .lent (hf := h) (hd := rfl) (hr := rfl), ?_⟩; simp (maxSteps := 4000000) only [go_sem]) | (refine ⟨_, .given (hf := h) (hd := rfl) (ha := rfl), ?_⟩; simp (maxSteps := 4000000) only [go_sem]))); refine hK _ ?_; clear hK K) | refine walkL_nil ?_ | refine walkL_ret ?_ | refine walkL_exit ?_ | refine blockA_here ?_ | refine blockA_other rfl ?_ | refine blockA_ret ?_ | refine blockA_normal ?_ | refine thenA_ret ?_ | refine thenA_exit ?_ | refine thenA_normal ?_)
  simp (maxSteps := 4000000) only [go_sem]
theorem f51 (l : List Span) (n : Int) (hl : l.length < 2 ^ 30) : Fn Tryz.prog 51 [.sl (spanRows l), .i n] (.bool (inSpans l n)) := by
  have h : Fn Tryz.prog 99 [.sl (spanRows l), .fn 100 [.ptr [.i n] 0]] (.bool (inSpans l n)) := f99 l 100 [.ptr [.i n] 0] (fun s => withinB n s.lo s.hi) (fun s _ => f100 s n) (by omega)
  refine fn_walk 8 Tryz.call51 Tryz.func51 rfl (by decide) fun J => ?_
  simp (maxSteps := 4000000) only [go_sem, St.start, Tryz.ntmps51, Tryz.results51]
  repeat (first | refine walkL_seq ?_ | refine walkL_skip ?_ | refine walkL_block ?_ | (refine walkL_region fun K hK => ?_; simp (maxSteps := 4000000) only [go_sem]; (repeat (first | (refine ⟨_, .lent (hf := h) (hd := rfl) (hr := rfl), ?_⟩; simp (maxSteps := 4000000) only [go_sem]) | (refine ⟨_, .given (hf := h) (hd := rfl) (ha := rfl), ?_⟩; simp (maxSteps := 4000000) only [go_sem]))); refine hK _ ?_; clear hK K) | refine walkL_nil ?_ | refine walkL_ret ?_ | refine walkL_exit ?_ | refine blockA_here ?_ | refine blockA_other rfl ?_ | refine blockA_ret ?_ | refine blockA_normal ?_ | refine thenA_ret ?_ | refine thenA_exit ?_ | refine thenA_normal ?_)
  simp (maxSteps := 4000000) only [go_sem]
theorem f50 (opens sure : List Span) (t : Nat) (ht : t < 2 ^ 30) (ho : opens.length < 2 ^ 30) (hs : sure.length < 2 ^ 30) : Fn Tryz.prog 50 [.i t, .ptr [.sl (spanRows opens)] 0, .ptr [.sl (spanRows sure)] 0] (.bool (inSpans opens t && inSpans sure ((t / 60 : Nat) : Int))) := by
  have h1 := f51 opens t ho
  have h2 := f51 sure ((t / 60 : Nat) : Int) hs
  have w : IntKind.i64.wrap ((t : Int).tdiv 60) = ((t / 60 : Nat) : Int) := by
    rw [Int.tdiv_eq_ediv_of_nonneg (by omega), wr_small (by omega)]
    omega
  obtain ⟨a, ea⟩ : ∃ a, a = inSpans opens t := ⟨_, rfl⟩
  obtain ⟨b, eb⟩ : ∃ b, b = inSpans sure ((t / 60 : Nat) : Int) := ⟨_, rfl⟩
  rw [← ea] at h1 ⊢
  rw [← eb] at h2 ⊢
  cases a
  all_goals
    refine fn_walk 14 Tryz.call50 Tryz.func50 rfl (by decide) fun J => ?_
    simp (maxSteps := 4000000) only [go_sem, St.start, Tryz.ntmps50, Tryz.results50]
    repeat (first | refine walkL_true rfl ?_ | refine walkL_false rfl ?_ | refine walkL_seq ?_ | refine walkL_skip ?_ | refine walkL_block ?_ | (refine walkL_region fun K hK => ?_; simp (maxSteps := 4000000) only [go_sem, w]; (repeat (first | (refine ⟨_, .lent (hf := h1) (hd := rfl) (hr := rfl), ?_⟩; simp (maxSteps := 4000000) only [go_sem, w]) | (refine ⟨_, .lent (hf := h2) (hd := rfl) (hr := rfl), ?_⟩; simp (maxSteps := 4000000) only [go_sem, w]) | (refine ⟨_, .given (hf := h1) (hd := rfl) (ha := rfl), ?_⟩; simp (maxSteps := 4000000) only [go_sem, w]) | (refine ⟨_, .given (hf := h2) (hd := rfl) (ha := rfl), ?_⟩; simp (maxSteps := 4000000) only [go_sem, w]))); refine hK _ ?_; clear hK K) | refine walkL_nil ?_ | refine walkL_ret ?_ | refine walkL_exit ?_ | refine blockA_here ?_ | refine blockA_other rfl ?_ | refine blockA_ret ?_ | refine blockA_normal ?_ | refine thenA_ret ?_ | refine thenA_exit ?_ | refine thenA_normal ?_)
    simp (maxSteps := 4000000) only [go_sem]
def wrongR (m : Int) (x : Rule) : Bool := !withinB x.path 0 (m - 1) || (!withinB x.after 0 48 || !limB x.lim)
def badRules (n : Net) (l : List Rule) : Bool := decide ((l.length : Int) > 12) || l.any (wrongR n.paths.length)
theorem f88 (n : Net) (x : Rule) (hn : n.paths.length < 2 ^ 30) : Fn Tryz.prog 88 [.agg x.row, .ptr n.cells 0] (.bool (wrongR n.paths.length x)) := by
  have h1 := f87 x.path 0 ((n.paths.length : Int) - 1)
  have h2 := f87 x.after 0 48
  have h3 := f89 x.lim
  have w : IntKind.i64.wrap ((n.paths.length : Int) - 1) = (n.paths.length : Int) - 1 := wr_small (by omega)
  obtain ⟨b1, e1⟩ : ∃ b, b = withinB x.path 0 ((n.paths.length : Int) - 1) := ⟨_, rfl⟩
  obtain ⟨b2, e2⟩ : ∃ b, b = withinB x.after 0 48 := ⟨_, rfl⟩
  obtain ⟨b3, e3⟩ : ∃ b, b = limB x.lim := ⟨_, rfl⟩
  rw [wrongR, ← e1, ← e2, ← e3]
  rw [← e1] at h1
  rw [← e2] at h2
  rw [← e3] at h3
  rw [Limits.row] at h3
  cases b1 <;> cases b2
  all_goals
    refine fn_walk 25 Tryz.call88 Tryz.func88 rfl (by decide) fun J => ?_
    simp (maxSteps := 4000000) only [go_sem, St.start, Tryz.ntmps88, Tryz.results88, Rule.row, Net.cells_eq]
    repeat (first | refine walkL_true rfl ?_ | refine walkL_false rfl ?_ | refine walkL_seq ?_ | refine walkL_skip ?_ | refine walkL_block ?_ | (refine walkL_region fun K hK => ?_; simp (maxSteps := 4000000) only [go_sem, w]; (repeat (first | (refine ⟨_, .lent (hf := h1) (hd := rfl) (hr := rfl), ?_⟩; simp (maxSteps := 4000000) only [go_sem, w]) | (refine ⟨_, .lent (hf := h2) (hd := rfl) (hr := rfl), ?_⟩; simp (maxSteps := 4000000) only [go_sem, w]) | (refine ⟨_, .lent (hf := h3) (hd := rfl) (hr := rfl), ?_⟩; simp (maxSteps := 4000000) only [go_sem, w]) | (refine ⟨_, .given (hf := h1) (hd := rfl) (ha := rfl), ?_⟩; simp (maxSteps := 4000000) only [go_sem, w]) | (refine ⟨_, .given (hf := h2) (hd := rfl) (ha := rfl), ?_⟩; simp (maxSteps := 4000000) only [go_sem, w]) | (refine ⟨_, .given (hf := h3) (hd := rfl) (ha := rfl), ?_⟩; simp (maxSteps := 4000000) only [go_sem, w]))); refine hK _ ?_; clear hK K) | refine walkL_nil ?_ | refine walkL_ret ?_ | refine walkL_exit ?_ | refine blockA_here ?_ | refine blockA_other rfl ?_ | refine blockA_ret ?_ | refine blockA_normal ?_ | refine thenA_ret ?_ | refine thenA_exit ?_ | refine thenA_normal ?_)
    simp (maxSteps := 4000000) only [go_sem]
def ruledE (n : Net) (rules : List Rule) (F : List (List Hour)) (seen : List Sight) (p : Int) : Int :=
  if foreF F ≠ 0 then foreF F else if checkF n ≠ 0 then checkF n else lookF F seen (if badRules n rules then 53 else 0) (withinB p (-1) ((n.paths.length : Int) - 1))
theorem f40 (n : Net) (rules : List Rule) (F : List (List Hour)) (seen : List Sight) (p : Int) (hn : n.Small) (hr : rules.length < 2 ^ 30) (hs : ForeSmall F) (hsl : seen.length < 2 ^ 30) :
    Fn Tryz.prog 40 [.agg n.cells, .sl (ruleRows rules), .agg [.sl (scenRows F)], .sl (sightRows seen), .i p]
      (.tup [if ruledE n rules F seen p = 0 then .ptr [lookV F seen, .sl (ruleRows (ofPath rules p))] 0 else .nilptr, .i (ruledE n rules F seen p)]) := by
  have h23 := f85 F hs
  have h90 := f86 n hn
  have hnp := hn.paths
  have w : IntKind.i64.wrap ((n.paths.length : Int) - 1) = (n.paths.length : Int) - 1 := wr_small (by omega)
  rw [Net.cells_eq] at h90
  obtain ⟨fe, hfe⟩ : ∃ e, e = foreF F := ⟨_, rfl⟩
  obtain ⟨ce, hce⟩ : ∃ e, e = checkF n := ⟨_, rfl⟩
  obtain ⟨E, hE⟩ : ∃ E, E = ruledE n rules F seen p := ⟨_, rfl⟩
  rw [← hE]
  rw [← hfe] at h23
  rw [← hce] at h90
  by_cases q1 : fe = 0
  · by_cases q2 : ce = 0
    · have hE2 : E = lookF F seen (if badRules n rules then 53 else 0) (withinB p (-1) ((n.paths.length : Int) - 1)) := by
        rw [hE]; unfold ruledE; rw [← hfe, ← hce, if_neg (fun h => h q1), if_neg (fun h => h q2)]
      have b1 : (fe != 0) = false := by simp [q1]
      have b2 : (ce != 0) = false := by simp [q2]
      have h52 := f87 p (-1) ((n.paths.length : Int) - 1)
      have h92 : Fn Tryz.prog 90 [.sl (ruleRows rules), .fn 88 [.ptr n.cells 0]] (.bool (rules.any (wrongR n.paths.length))) := f90 rules 88 [.ptr n.cells 0] (wrongR n.paths.length) (fun x _ => f88 n x hnp) (by omega)
      have h65 := f47 [.sl (intRows (numsOf (possL F seen))), .sl (scenRows (scensOf (possL F seen))), .i (hd0 F).length] rules p hr
      have h39 := f59 F seen (if badRules n rules then 53 else 0) (withinB p (-1) ((n.paths.length : Int) - 1)) hs hsl
      rw [← hE2] at h39
      obtain ⟨t, ht⟩ : ∃ t, t = withinB p (-1) ((n.paths.length : Int) - 1) := ⟨_, rfl⟩
      rw [← ht] at h52 h39
      obtain ⟨a, ha⟩ : ∃ a, a = rules.any (wrongR n.paths.length) := ⟨_, rfl⟩
      rw [← ha] at h92
      have hbad : badRules n rules = (decide ((rules.length : Int) > 12) || a) := by rw [ha]; rfl
      rw [hbad] at h39
      rw [Net.cells_eq] at h92
      obtain ⟨R, hR⟩ : ∃ R, R = ofPath rules p := ⟨_, rfl⟩
      rw [← hR] at h65 ⊢
      clear hE hE2
      cases q3 : decide ((rules.length : Int) > 12) <;> cases a
      all_goals
        rw [q3] at h39
        simp only [Bool.false_or, Bool.true_or, Bool.or_false, Bool.or_true, Bool.false_eq_true, if_false, if_true] at h39
        by_cases q4 : E = 0
        · have b4 : (E != 0) = false := by simp [q4]
          rw [if_pos q4] at h39 ⊢
          rw [lookV] at h39 ⊢
          refine fn_walk 61 Tryz.call40 Tryz.func40 rfl (by decide) fun J => ?_
          simp (maxSteps := 4000000) only [go_sem, St.start, Tryz.ntmps40, Tryz.results40, Net.cells_eq]
          repeat (first | refine walkL_true rfl ?_ | refine walkL_false rfl ?_ | refine walkL_seq ?_ | refine walkL_skip ?_ | refine walkL_block ?_ | (refine walkL_region fun K hK => ?_; simp (maxSteps := 4000000) only [go_sem, b1, b2, b4, w, q3]; (repeat (first | (refine ⟨_, .lent (hf := h23) (hd := rfl) (hr := rfl), ?_⟩; simp (maxSteps := 4000000) only [go_sem, b1, b2, b4, w, q3]) | (refine ⟨_, .lent (hf := h90) (hd := rfl) (hr := rfl), ?_⟩; simp (maxSteps := 4000000) only [go_sem, b1, b2, b4, w, q3]) | (refine ⟨_, .lent (hf := h52) (hd := rfl) (hr := rfl), ?_⟩; simp (maxSteps := 4000000) only [go_sem, b1, b2, b4, w, q3]) | (refine ⟨_, .lent (hf := h92) (hd := rfl) (hr := rfl), ?_⟩; simp (maxSteps := 4000000) only [go_sem, b1, b2, b4, w, q3]) | (refine ⟨_, .lent (hf := h39) (hd := rfl) (hr := rfl), ?_⟩; simp (maxSteps := 4000000) only [go_sem, b1, b2, b4, w, q3]) | (refine ⟨_, .lent (hf := h65) (hd := rfl) (hr := rfl), ?_⟩; simp (maxSteps := 4000000) only [go_sem, b1, b2, b4, w, q3]) | (refine ⟨_, .given (hf := h23) (hd := rfl) (ha := rfl), ?_⟩; simp (maxSteps := 4000000) only [go_sem, b1, b2, b4, w, q3]) | (refine ⟨_, .given (hf := h90) (hd := rfl) (ha := rfl), ?_⟩; simp (maxSteps := 4000000) only [go_sem, b1, b2, b4, w, q3]) | (refine ⟨_, .given (hf := h52) (hd := rfl) (ha := rfl), ?_⟩; simp (maxSteps := 4000000) only [go_sem, b1, b2, b4, w, q3]) | (refine ⟨_, .given (hf := h92) (hd := rfl) (ha := rfl), ?_⟩; simp (maxSteps := 4000000) only [go_sem, b1, b2, b4, w, q3]) | (refine ⟨_, .given (hf := h39) (hd := rfl) (ha := rfl), ?_⟩; simp (maxSteps := 4000000) only [go_sem, b1, b2, b4, w, q3]) | (refine ⟨_, .given (hf := h65) (hd := rfl) (ha := rfl), ?_⟩; simp (maxSteps := 4000000) only [go_sem, b1, b2, b4, w, q3]))); refine hK _ ?_; clear hK K) | refine walkL_nil ?_ | refine walkL_ret ?_ | refine walkL_exit ?_ | refine blockA_here ?_ | refine blockA_other rfl ?_ | refine blockA_ret ?_ | refine blockA_normal ?_ | refine thenA_ret ?_ | refine thenA_exit ?_ | refine thenA_normal ?_)
          simp (maxSteps := 4000000) only [go_sem, q4]
        · have b4 : (E != 0) = true := by simpa using q4
          rw [if_neg q4] at h39 ⊢
          refine fn_walk 61 Tryz.call40 Tryz.func40 rfl (by decide) fun J => ?_
          simp (maxSteps := 4000000) only [go_sem, St.start, Tryz.ntmps40, Tryz.results40, Net.cells_eq]
          repeat (first | refine walkL_true rfl ?_ | refine walkL_false rfl ?_ | refine walkL_seq ?_ | refine walkL_skip ?_ | refine walkL_block ?_ | (refine walkL_region fun K hK => ?_; simp (maxSteps := 4000000) only [go_sem, b1, b2, b4, w, q3]; (repeat (first | (refine ⟨_, .lent (hf := h23) (hd := rfl) (hr := rfl), ?_⟩; simp (maxSteps := 4000000) only [go_sem, b1, b2, b4, w, q3]) | (refine ⟨_, .lent (hf := h90) (hd := rfl) (hr := rfl), ?_⟩; simp (maxSteps := 4000000) only [go_sem, b1, b2, b4, w, q3]) | (refine ⟨_, .lent (hf := h52) (hd := rfl) (hr := rfl), ?_⟩; simp (maxSteps := 4000000) only [go_sem, b1, b2, b4, w, q3]) | (refine ⟨_, .lent (hf := h92) (hd := rfl) (hr := rfl), ?_⟩; simp (maxSteps := 4000000) only [go_sem, b1, b2, b4, w, q3]) | (refine ⟨_, .lent (hf := h39) (hd := rfl) (hr := rfl), ?_⟩; simp (maxSteps := 4000000) only [go_sem, b1, b2, b4, w, q3]) | (refine ⟨_, .given (hf := h23) (hd := rfl) (ha := rfl), ?_⟩; simp (maxSteps := 4000000) only [go_sem, b1, b2, b4, w, q3]) | (refine ⟨_, .given (hf := h90) (hd := rfl) (ha := rfl), ?_⟩; simp (maxSteps := 4000000) only [go_sem, b1, b2, b4, w, q3]) | (refine ⟨_, .given (hf := h52) (hd := rfl) (ha := rfl), ?_⟩; simp (maxSteps := 4000000) only [go_sem, b1, b2, b4, w, q3]) | (refine ⟨_, .given (hf := h92) (hd := rfl) (ha := rfl), ?_⟩; simp (maxSteps := 4000000) only [go_sem, b1, b2, b4, w, q3]) | (refine ⟨_, .given (hf := h39) (hd := rfl) (ha := rfl), ?_⟩; simp (maxSteps := 4000000) only [go_sem, b1, b2, b4, w, q3]))); refine hK _ ?_; clear hK K) | refine walkL_nil ?_ | refine walkL_ret ?_ | refine walkL_exit ?_ | refine blockA_here ?_ | refine blockA_other rfl ?_ | refine blockA_ret ?_ | refine blockA_normal ?_ | refine thenA_ret ?_ | refine thenA_exit ?_ | refine thenA_normal ?_)
          simp (maxSteps := 4000000) only [go_sem]
    · have hE2 : E = ce := by
        rw [hE]; unfold ruledE; rw [← hfe, ← hce, if_neg (fun h => h q1), if_pos q2]
      rw [hE2, if_neg q2]
      have b1 : (fe != 0) = false := by simp [q1]
      have b2 : (ce != 0) = true := by simpa using q2
      refine fn_walk 61 Tryz.call40 Tryz.func40 rfl (by decide) fun J => ?_
      simp (maxSteps := 4000000) only [go_sem, St.start, Tryz.ntmps40, Tryz.results40, Net.cells_eq]
      repeat (first | refine walkL_true rfl ?_ | refine walkL_false rfl ?_ | refine walkL_seq ?_ | refine walkL_skip ?_ | refine walkL_block ?_ | (refine walkL_region fun K hK => ?_; simp (maxSteps := 4000000) only [go_sem, b1, b2]; (repeat (first | (refine ⟨_, .lent (hf := h23) (hd := rfl) (hr := rfl), ?_⟩; simp (maxSteps := 4000000) only [go_sem, b1, b2]) | (refine ⟨_, .lent (hf := h90) (hd := rfl) (hr := rfl), ?_⟩; simp (maxSteps := 4000000) only [go_sem, b1, b2]) | (refine ⟨_, .given (hf := h23) (hd := rfl) (ha := rfl), ?_⟩; simp (maxSteps := 4000000) only [go_sem, b1, b2]) | (refine ⟨_, .given (hf := h90) (hd := rfl) (ha := rfl), ?_⟩; simp (maxSteps := 4000000) only [go_sem, b1, b2]))); refine hK _ ?_; clear hK K) | refine walkL_nil ?_ | refine walkL_ret ?_ | refine walkL_exit ?_ | refine blockA_here ?_ | refine blockA_other rfl ?_ | refine blockA_ret ?_ | refine blockA_normal ?_ | refine thenA_ret ?_ | refine thenA_exit ?_ | refine thenA_normal ?_)
      simp (maxSteps := 4000000) only [go_sem]
  · have hE2 : E = fe := by
      rw [hE]; unfold ruledE; rw [← hfe, if_pos q1]
    rw [hE2, if_neg q1]
    have b1 : (fe != 0) = true := by simpa using q1
    refine fn_walk 61 Tryz.call40 Tryz.func40 rfl (by decide) fun J => ?_
    simp (maxSteps := 4000000) only [go_sem, St.start, Tryz.ntmps40, Tryz.results40, Net.cells_eq]
    repeat (first | refine walkL_true rfl ?_ | refine walkL_false rfl ?_ | refine walkL_seq ?_ | refine walkL_skip ?_ | refine walkL_block ?_ | (refine walkL_region fun K hK => ?_; simp (maxSteps := 4000000) only [go_sem, b1]; (repeat (first | (refine ⟨_, .lent (hf := h23) (hd := rfl) (hr := rfl), ?_⟩; simp (maxSteps := 4000000) only [go_sem, b1]) | (refine ⟨_, .given (hf := h23) (hd := rfl) (ha := rfl), ?_⟩; simp (maxSteps := 4000000) only [go_sem, b1]))); refine hK _ ?_; clear hK K) | refine walkL_nil ?_ | refine walkL_ret ?_ | refine walkL_exit ?_ | refine blockA_here ?_ | refine blockA_other rfl ?_ | refine blockA_ret ?_ | refine blockA_normal ?_ | refine thenA_ret ?_ | refine thenA_exit ?_ | refine thenA_normal ?_)
    simp (maxSteps := 4000000) only [go_sem]
end Go.Ab
namespace Go.Ab
open Go.RowKit Go.Proofs
set_option maxHeartbeats 16000000
set_option maxRecDepth 20000
attribute [local irreducible] WalkL Walk
def updI {α : Type} (f : Nat → α → α) (l : List α) (k : Nat) : List α := (l.take k).mapIdx f ++ l.drop k
theorem updI_len {α : Type} (f : Nat → α → α) (l : List α) (k : Nat) : (updI f l k).length = l.length := by simp [updI]; omega
theorem updI_zero {α : Type} (f : Nat → α → α) (l : List α) : updI f l 0 = l := by simp [updI]
theorem updI_all {α : Type} (f : Nat → α → α) (l : List α) : updI f l l.length = l.mapIdx f := by simp [updI]
theorem updI_get {α : Type} (f : Nat → α → α) {l : List α} {k : Nat} {x : α} (h : l[k]? = some x) : (updI f l k)[k]? = some x := by
  have hk := (List.getElem?_eq_some_iff.1 h).1
  have h1 : ((l.take k).mapIdx f).length = k := by simp; omega
  unfold updI
  rw [List.getElem?_append_right (by omega), h1, Nat.sub_self, drop_get h]
  rfl
theorem updI_set {α : Type} (f : Nat → α → α) {l : List α} {k : Nat} {x : α} (h : l[k]? = some x) : (updI f l k).set k (f k x) = updI f l (k + 1) := by
  have hk := (List.getElem?_eq_some_iff.1 h).1
  have h1 : ((l.take k).mapIdx f).length = k := by simp; omega
  have h2 : (l.take k).length = k := by simp; omega
  unfold updI
  rw [List.set_append_right _ _ (by omega), h1, Nat.sub_self, drop_get h, List.set_cons_zero, List.take_add_one, h, Option.toList_some, List.mapIdx_append, h2]
  simp
def safeOpens (opens sure : List Span) : List Span := (spansQ (fun t => inSpans opens t && inSpans sure ((t / 60 : Nat) : Int)) 2881).take 6
def safeP (rules : List Rule) (S : List (List Hour)) (H : Nat) (i : Nat) (p : Path) : Path :=
  if ((ofPath rules i).length : Int) == 0 then p else { p with opens := safeOpens p.opens (openS (ofPath rules i) S H) }
def safeF (n : Net) (rules : List Rule) (F : List (List Hour)) (seen : List Sight) : Net × Int :=
  if ruledE n rules F seen (-1) = 0 then (⟨n.places, n.paths.mapIdx (safeP rules (scensOf (possL F seen)) (hd0 F).length)⟩, 0) else (⟨0, []⟩, ruledE n rules F seen (-1))
theorem ruled_all {n : Net} {rules : List Rule} {F : List (List Hour)} {seen : List Sight} {p : Int} (h : ruledE n rules F seen p = 0) :
    ForeGood F ∧ sightsB (hd0 F).length seen = true ∧ possL F seen ≠ [] ∧ badNet n = false ∧ badRules n rules = false ∧ withinB p (-1) ((n.paths.length : Int) - 1) = true := by
  unfold ruledE at h
  split at h
  · rename_i h1; exact absurd h h1
  · split at h
    · rename_i h1; exact absurd h h1
    · rename_i h2
      obtain ⟨a, b, c, d, e⟩ := look_all h
      refine ⟨a, b, c, ?_, ?_, e⟩
      · cases hb : badNet n with
        | false => rfl
        | true => simp [checkF, hb] at h2
      · cases hb : badRules n rules with
        | false => rfl
        | true => rw [hb, if_pos rfl] at d; cases d
theorem rules_ok {n : Net} {rules : List Rule} (h : badRules n rules = false) : rules.length ≤ 12 ∧ ∀ x ∈ rules, (0 ≤ x.path ∧ x.path ≤ (n.paths.length : Int) - 1) ∧ (0 ≤ x.after ∧ x.after ≤ 48) ∧ limB x.lim = true := by
  unfold badRules at h
  simp only [Bool.or_eq_false_iff, decide_eq_false_iff_not] at h
  refine ⟨by have := h.1; omega, fun x hx => ?_⟩
  have h2 := h.2
  rw [List.any_eq_false] at h2
  have := h2 x hx
  unfold wrongR at this
  simp only [Bool.or_eq_true, Bool.not_eq_true', not_or, Bool.not_eq_false] at this
  exact ⟨within_iff.1 this.1, within_iff.1 this.2.1, this.2.2⟩
theorem ofPath_sub {rules : List Rule} {p : Int} : ∀ x ∈ ofPath rules p, x ∈ rules := fun x hx => (List.mem_filter.1 hx).1
theorem ofPath_len {rules : List Rule} {p : Int} : (ofPath rules p).length ≤ rules.length := List.length_filter_le _ _
theorem f15 (n : Net) (rules : List Rule) (F : List (List Hour)) (seen : List Sight) (hn : n.Small) (hr : rules.length < 2 ^ 30) (hs : ForeSmall F) (hsl : seen.length < 2 ^ 30) :
    Fn Tryz.prog 15 [.agg n.cells, .sl (ruleRows rules), .agg [.sl (scenRows F)], .sl (sightRows seen)] (.tup [.agg (safeF n rules F seen).1.cells, .i (safeF n rules F seen).2]) := by
  have h63 := f40 n rules F seen (-1) hn hr hs hsl
  unfold safeF
  by_cases h0 : ruledE n rules F seen (-1) = 0
  · obtain ⟨hg, hsi, hne, hbn, hbr, _⟩ := ruled_all h0
    obtain ⟨hrl, hro⟩ := rules_ok hbr
    rw [if_pos h0]
    rw [if_pos h0, h0, lookV_out] at h63
    have hall := scens_all (seen := seen) hg
    have hSl := scens_short (F := F) (seen := seen)
    have hH := hg.hours
    have hF := hg.scen
    have hpl := hn.paths
    obtain ⟨N, hN⟩ : ∃ N, N = numsOf (possL F seen) := ⟨_, rfl⟩
    obtain ⟨S, hS⟩ : ∃ S, S = scensOf (possL F seen) := ⟨_, rfl⟩
    obtain ⟨H, hHe⟩ : ∃ H, H = (hd0 F).length := ⟨_, rfl⟩
    rw [← hN, ← hS, ← hHe] at h63
    rw [← hS, ← hHe]
    rw [← hS] at hall hSl
    rw [← hHe] at hall hH
    have h64 := f46 n.paths hpl
    have h65 := fun p => f47 [.sl (intRows N), .sl (scenRows S), .i H] rules p hr
    have h67 := fun p => f41 N S H (ofPath rules p) (fun x hx => (hro x (ofPath_sub x hx)).2.1) hall (by omega) (by omega) (by have := ofPath_len (rules := rules) (p := p); omega)
    rw [outV] at h63
    simp only [outV] at h67
    rw [Net.cells_eq] at h63
    obtain ⟨f, hf⟩ : ∃ f, f = safeP rules S H := ⟨_, rfl⟩
    rw [← hf, Net.cells_eq]
    refine fn_walk 100 Tryz.call15 Tryz.func15 rfl (by decide) fun J => ?_
    simp (maxSteps := 4000000) only [go_sem, St.start, Tryz.ntmps15, Tryz.results15, Net.cells_eq]
    repeat (first | refine walkL_true rfl ?_ | refine walkL_false rfl ?_ | refine walkL_seq ?_ | refine walkL_skip ?_ | refine walkL_block ?_ | (refine walkL_region fun K hK => ?_; simp (maxSteps := 4000000) only [go_sem]; (repeat (first | (refine ⟨_, .lent (hf := h63) (hd := rfl) (hr := rfl), ?_⟩; simp (maxSteps := 4000000) only [go_sem]) | (refine ⟨_, .given (hf := h63) (hd := rfl) (ha := rfl), ?_⟩; simp (maxSteps := 4000000) only [go_sem]))); refine hK _ ?_; clear hK K) | refine walkL_nil ?_ | refine walkL_ret ?_ | refine walkL_exit ?_ | refine blockA_here ?_ | refine blockA_other rfl ?_ | refine blockA_ret ?_ | refine blockA_normal ?_ | refine thenA_ret ?_ | refine thenA_exit ?_ | refine thenA_normal ?_)
    refine walkL_drawn (by kernel_rfl) (by kernel_rfl) fun K hK => ?_
    simp (maxSteps := 4000000) only [go_sem]
    refine ⟨_, .fnS (hdst := rfl) (hf := h64) (hd := rfl) (hr := .inr rfl) (hfr := rfl), ?_⟩
    simp (maxSteps := 4000000) only [go_sem]
    refine ⟨by kernel_rfl, hK _ ?_⟩
    clear hK K
    repeat (first | refine walkL_true rfl ?_ | refine walkL_false rfl ?_ | refine walkL_seq ?_ | refine walkL_skip ?_ | refine walkL_block ?_ | (refine walkL_region fun K hK => ?_; simp (maxSteps := 4000000) only [go_sem]; refine hK _ ?_; clear hK K) | refine walkL_nil ?_ | refine walkL_ret ?_ | refine walkL_exit ?_ | refine blockA_here ?_ | refine blockA_other rfl ?_ | refine blockA_ret ?_ | refine blockA_normal ?_ | refine thenA_ret ?_ | refine thenA_exit ?_ | refine thenA_normal ?_)
    refine walkL_release [13] ?_
    simp (maxSteps := 4000000) only [go_sem]
    refine walkL_loopS (fun (i : Nat) => [(47, .d (.i i))]) (fun i => [(36, some (.arr 56 8 (pathRows (updI f n.paths i))))]) (fun i => i ≤ n.paths.length) (fun i => n.paths.length - i) 0 ?_ (Nat.zero_le _) ?_
    · simp (maxSteps := 4000000) only [go_sem, updI_zero]
      refine weak_of [] ?_ ?_ rfl rfl <;> simp [lessT, lessM, lessB, AV.less]
      all_goals first | done | rfl | exact ⟨rfl, rfl⟩ | rw [updI_zero]
    · intro i hi
      simp (maxSteps := 4000000) only [go_sem]
      repeat (first | refine walkL_seq ?_ | refine walkL_skip ?_ | refine walkL_block ?_ | (refine walkL_region fun K hK => ?_; simp (maxSteps := 4000000) only [go_sem]; refine hK _ ?_; clear hK K) | refine walkL_nil ?_ | refine walkL_ret ?_ | refine walkL_exit ?_ | refine blockA_here ?_ | refine blockA_other rfl ?_ | refine blockA_ret ?_ | refine blockA_normal ?_ | refine thenA_ret ?_ | refine thenA_exit ?_ | refine thenA_normal ?_)
      refine walkL_cond rfl (fun hb => ?_) (fun hb => ?_)
      · have hlt : i < n.paths.length := by simpa using hb
        have hw : IntKind.i64.wrap ((i : Int) + 1) = ((i + 1 : Nat) : Int) := by rw [wr_small (by omega)]; simp
        obtain ⟨x, hx⟩ : ∃ x, n.paths[i]? = some x := ⟨_, List.getElem?_eq_getElem hlt⟩
        have hxo := hn.opens x (List.mem_of_getElem? hx)
        have e1 := updI_set f hx
        have hLg := updI_get f hx
        have hLl := updI_len f n.paths i
        obtain ⟨L, hL⟩ : ∃ L, L = updI f n.paths i := ⟨_, rfl⟩
        rw [← hL] at e1 hLg hLl ⊢
        have hiL : i < L.length := by omega
        have g1 := pathRows_at hLg
        rw [Path.row_eq] at g1
        have c65 := h65 i
        have c67 := h67 i
        have hfx : f i x = safeP rules S H i x := by rw [hf]
        unfold safeP at hfx
        obtain ⟨R, hR⟩ : ∃ R, R = ofPath rules i := ⟨_, rfl⟩
        rw [← hR] at c65 c67 hfx
        cases q : ((R.length : Int) == 0)
        · rw [q] at hfx
          simp only [Bool.false_eq_true, if_false] at hfx
          obtain ⟨A, hA⟩ : ∃ A, A = openS R S H := ⟨_, rfl⟩
          rw [← hA] at c67 hfx
          have hAl : A.length < 2 ^ 30 := by
            have := spansQ_len (fun i => S.all fun s => keepsB alwaysB R s i) H
            rw [hA]
            unfold openS
            omega
          have c68 := f49 2881 50 [.ptr [.sl (spanRows x.opens)] 0, .ptr [.sl (spanRows A)] 0] (fun t => inSpans x.opens t && inSpans A ((t / 60 : Nat) : Int)) (fun t ht => f50 x.opens A t (by omega) hxo hAl) (by decide)
          unfold safeOpens at hfx
          obtain ⟨X, hX⟩ : ∃ X, X = spansQ (fun t => inSpans x.opens t && inSpans A ((t / 60 : Nat) : Int)) 2881 := ⟨_, rfl⟩
          rw [← hX] at c68 hfx
          have e2 : (pathRows L).set i [.i x.frm, .i x.to, .i x.grade, .i x.time.lo, .i x.time.hi, .i x.snow.lo, .i x.snow.hi, .sl (spanRows X)] = pathRows (L.set i { x with opens := X }) := pathRows_set L i { x with opens := X }
          have g2 : (pathRows (L.set i { x with opens := X }))[i]? = some [.i x.frm, .i x.to, .i x.grade, .i x.time.lo, .i x.time.hi, .i x.snow.lo, .i x.snow.hi, .sl (spanRows X)] := pathRows_at (x := { x with opens := X }) (List.getElem?_set_self hiL)
          have e3 : (pathRows (L.set i { x with opens := X })).set i [.i x.frm, .i x.to, .i x.grade, .i x.time.lo, .i x.time.hi, .i x.snow.lo, .i x.snow.hi, .sl (spanRows (X.take 6))] = pathRows (updI f n.paths (i + 1)) := by
            rw [← e1, hfx]
            have := pathRows_set (L.set i { x with opens := X }) i { x with opens := X.take 6 }
            rw [List.set_set] at this
            exact this
          have hL2 : (L.set i { x with opens := X }).length = L.length := by simp
          obtain ⟨L2, hL2e⟩ : ∃ L2, L2 = L.set i { x with opens := X } := ⟨_, rfl⟩
          rw [← hL2e] at e2 g2 e3 hL2
          have hiL2 : i < L2.length := by omega
          repeat (first | refine walkL_true rfl ?_ | refine walkL_false rfl ?_ | refine walkL_seq ?_ | refine walkL_skip ?_ | refine walkL_block ?_ | (refine walkL_region fun K hK => ?_; simp (maxSteps := 4000000) only [go_sem, g1, hiL, q]; (repeat (first | (refine ⟨_, .lent (hf := c65) (hd := rfl) (hr := rfl), ?_⟩; simp (maxSteps := 4000000) only [go_sem, g1, hiL, q]) | (refine ⟨_, .lent (hf := c67) (hd := rfl) (hr := rfl), ?_⟩; simp (maxSteps := 4000000) only [go_sem, g1, hiL, q]) | (refine ⟨_, .given (hf := c65) (hd := rfl) (ha := rfl), ?_⟩; simp (maxSteps := 4000000) only [go_sem, g1, hiL, q]) | (refine ⟨_, .given (hf := c67) (hd := rfl) (ha := rfl), ?_⟩; simp (maxSteps := 4000000) only [go_sem, g1, hiL, q]))); refine hK _ ?_; clear hK K) | refine walkL_nil ?_ | refine walkL_ret ?_ | refine walkL_exit ?_ | refine blockA_here ?_ | refine blockA_other rfl ?_ | refine blockA_ret ?_ | refine blockA_normal ?_ | refine thenA_ret ?_ | refine thenA_exit ?_ | refine thenA_normal ?_)
          refine walkL_region fun K hK => ?_
          simp (maxSteps := 4000000) only [go_sem, g1, hiL]
          refine ⟨_, .lentS (hdst := rfl) (hf := c68) (hd := rfl) (hr := by first | exact rowsFlat_int _ | exact rowsFlat_hour _ | exact rowsFlat_sight _ | exact rowsFlat_sky _ | exact rowsFlat_span _ | exact rowsFlat_bool _) (hfr := rfl), ?_⟩
          simp (maxSteps := 4000000) only [go_sem, g1, hiL, e2]
          refine hK _ ?_
          clear hK K
          have m1 : (0 : Int) ≤ min (X.length : Int) 6 := by omega
          have m2 : min (X.length : Int) 6 ≤ (X.length : Int) := by omega
          have m3 : (0 : Int) ≤ min (X.length : Int) 6 ∧ min (X.length : Int) 6 ≤ (X.length : Int) := ⟨m1, m2⟩
          have e6 : List.take (min (X.length : Int) 6).toNat (spanRows X) = spanRows (X.take 6) := by
            have : (min (X.length : Int) 6).toNat = min X.length 6 := by omega
            rw [this]
            unfold spanRows
            by_cases h6 : 6 ≤ X.length
            · rw [Nat.min_eq_right h6, List.map_take]
            · rw [Nat.min_eq_left (by omega), List.take_of_length_le (by simp), List.take_of_length_le (by omega)]
          have e7 : List.take ((min (X.length : Int) 6).toNat - 0) (List.drop 0 (spanRows X)) = spanRows (X.take 6) := by simpa using e6
          repeat (first | refine walkL_true rfl ?_ | refine walkL_false rfl ?_ | refine walkL_seq ?_ | refine walkL_skip ?_ | refine walkL_block ?_ | (refine walkL_region fun K hK => ?_; simp (maxSteps := 4000000) only [go_sem, g2, hiL2, hiL, m1, m2, m3, e6, e7, e3, hw, hL2]; refine hK _ ?_; clear hK K) | (refine walkL_drawn (by kernel_rfl) (by kernel_rfl) fun K hK => ?_; simp (maxSteps := 4000000) only [go_sem, g2, hiL2, hiL, m1, m2, m3, e6, e7, e3, hw, hL2]; refine ⟨by kernel_rfl, hK _ ?_⟩; clear hK K) | refine walkL_nil ?_ | refine walkL_ret ?_ | refine walkL_exit ?_ | refine blockA_here ?_ | refine blockA_other rfl ?_ | refine blockA_ret ?_ | refine blockA_normal ?_ | refine thenA_ret ?_ | refine thenA_exit ?_ | refine thenA_normal ?_)
          refine ⟨rfl, i + 1, ?_, hlt, by omega⟩
          refine weak_of [] ?_ ?_ rfl rfl <;> simp [lessT, lessM, lessB, AV.less]
          all_goals first | done | rfl | exact ⟨rfl, rfl⟩ | (rw [e6, e3])
        · rw [q] at hfx
          simp only [if_true] at hfx
          have c66 := f48 x.opens hxo
          have e2 : (pathRows L).set i [.i x.frm, .i x.to, .i x.grade, .i x.time.lo, .i x.time.hi, .i x.snow.lo, .i x.snow.hi, .sl (spanRows x.opens)] = pathRows (updI f n.paths (i + 1)) := by
            rw [← e1, hfx]
            exact pathRows_set L i x
          repeat (first | refine walkL_true rfl ?_ | refine walkL_false rfl ?_ | refine walkL_seq ?_ | refine walkL_skip ?_ | refine walkL_block ?_ | (refine walkL_region fun K hK => ?_; simp (maxSteps := 4000000) only [go_sem, g1, hiL, q]; (repeat (first | (refine ⟨_, .lent (hf := c65) (hd := rfl) (hr := rfl), ?_⟩; simp (maxSteps := 4000000) only [go_sem, g1, hiL, q]) | (refine ⟨_, .given (hf := c65) (hd := rfl) (ha := rfl), ?_⟩; simp (maxSteps := 4000000) only [go_sem, g1, hiL, q]))); refine hK _ ?_; clear hK K) | refine walkL_nil ?_ | refine walkL_ret ?_ | refine walkL_exit ?_ | refine blockA_here ?_ | refine blockA_other rfl ?_ | refine blockA_ret ?_ | refine blockA_normal ?_ | refine thenA_ret ?_ | refine thenA_exit ?_ | refine thenA_normal ?_)
          refine walkL_region fun K hK => ?_
          simp (maxSteps := 4000000) only [go_sem, g1, hiL]
          refine ⟨_, .lentS (hdst := rfl) (hf := c66) (hd := rfl) (hr := by first | exact rowsFlat_int _ | exact rowsFlat_hour _ | exact rowsFlat_sight _ | exact rowsFlat_sky _ | exact rowsFlat_span _ | exact rowsFlat_bool _) (hfr := rfl), ?_⟩
          simp (maxSteps := 4000000) only [go_sem, g1, hiL, e2]
          refine hK _ ?_
          clear hK K
          repeat (first | refine walkL_true rfl ?_ | refine walkL_false rfl ?_ | refine walkL_seq ?_ | refine walkL_skip ?_ | refine walkL_block ?_ | (refine walkL_region fun K hK => ?_; simp (maxSteps := 4000000) only [go_sem, hw]; refine hK _ ?_; clear hK K) | refine walkL_nil ?_ | refine walkL_ret ?_ | refine walkL_exit ?_ | refine blockA_here ?_ | refine blockA_other rfl ?_ | refine blockA_ret ?_ | refine blockA_normal ?_ | refine thenA_ret ?_ | refine thenA_exit ?_ | refine thenA_normal ?_)
          refine ⟨rfl, i + 1, ?_, hlt, by omega⟩
          refine weak_of [] ?_ ?_ rfl rfl <;> simp [lessT, lessM, lessB, AV.less]
          all_goals first | done | rfl | exact ⟨rfl, rfl⟩
      · have he : i = n.paths.length := by (have : ¬ i < n.paths.length := by simpa using hb); omega
        subst he
        rw [updI_all]
        repeat (first | refine walkL_seq ?_ | refine walkL_skip ?_ | refine walkL_block ?_ | (refine walkL_region fun K hK => ?_; simp (maxSteps := 4000000) only [go_sem]; refine hK _ ?_; clear hK K) | refine walkL_nil ?_ | refine walkL_ret ?_ | refine walkL_exit ?_ | refine blockA_here ?_ | refine blockA_other rfl ?_ | refine blockA_ret ?_ | refine blockA_normal ?_ | refine thenA_ret ?_ | refine thenA_exit ?_ | refine thenA_normal ?_)
        simp (maxSteps := 4000000) only [go_sem]
  · rw [if_neg h0]
    rw [if_neg h0] at h63
    have b0 : (ruledE n rules F seen (-1) != 0) = true := by simpa using h0
    obtain ⟨e, he⟩ : ∃ e, e = ruledE n rules F seen (-1) := ⟨_, rfl⟩
    rw [← he] at h63 b0 ⊢
    rw [Net.cells_eq] at h63
    have e0 : pathRows [] = [] := rfl
    refine fn_walk 100 Tryz.call15 Tryz.func15 rfl (by decide) fun J => ?_
    simp (maxSteps := 4000000) only [go_sem, St.start, Tryz.ntmps15, Tryz.results15, Net.cells_eq]
    repeat (first | refine walkL_true rfl ?_ | refine walkL_false rfl ?_ | refine walkL_seq ?_ | refine walkL_skip ?_ | refine walkL_block ?_ | (refine walkL_region fun K hK => ?_; simp (maxSteps := 4000000) only [go_sem, b0]; (repeat (first | (refine ⟨_, .lent (hf := h63) (hd := rfl) (hr := rfl), ?_⟩; simp (maxSteps := 4000000) only [go_sem, b0]) | (refine ⟨_, .given (hf := h63) (hd := rfl) (ha := rfl), ?_⟩; simp (maxSteps := 4000000) only [go_sem, b0]))); refine hK _ ?_; clear hK K) | refine walkL_nil ?_ | refine walkL_ret ?_ | refine walkL_exit ?_ | refine blockA_here ?_ | refine blockA_other rfl ?_ | refine blockA_ret ?_ | refine blockA_normal ?_ | refine thenA_ret ?_ | refine thenA_exit ?_ | refine thenA_normal ?_)
    simp (maxSteps := 4000000) only [go_sem, Net.cells_eq, e0]
    try rfl
end Go.Ab
namespace Go.Ab
open Go.RowKit Go.Proofs
set_option maxHeartbeats 16000000
set_option maxRecDepth 100000
attribute [local irreducible] WalkL Walk
def exL : Limits := ⟨40, 0, ⟨-5, 15⟩⟩
def exR : Rule := ⟨1, 1, exL⟩
def exSafe : Net := ⟨4, [⟨0, 1, 2, ⟨100, 120⟩, ⟨0, 0⟩, [⟨0, 2880⟩]⟩, ⟨1, 2, 3, ⟨60, 90⟩, ⟨4, 10⟩, [⟨180, 239⟩]⟩, ⟨2, 3, 2, ⟨60, 60⟩, ⟨0, 0⟩, [⟨400, 700⟩]⟩, ⟨0, 3, 2, ⟨300, 400⟩, ⟨0, 0⟩, [⟨0, 2880⟩]⟩, ⟨3, 0, 2, ⟨200, 240⟩, ⟨0, 0⟩, [⟨0, 2880⟩]⟩]⟩
theorem gap_ex : gapF exF [] exL 3 = (4, 0) := by kernel_rfl
theorem safe_ex : safeF exN [exR] exF [] = (exSafe, 0) := by kernel_rfl
theorem exF_small : ForeSmall exF := ⟨by decide, by intro l hl; revert hl l; decide⟩
theorem f9 : Fn Tryz.prog 9 [] (.bool true) := by
  have h35 := f37
  have h36 := f38
  have h14 := f26 exF [] exL 3 exF_small (by decide)
  have h37 := f15 exN [exR] exF [] ex_small (by decide) exF_small (by decide)
  rw [gap_ex] at h14
  rw [safe_ex] at h37
  have h38 := f39 180 239
  have e0 : sightRows [] = [] := rfl
  rw [e0] at h14 h37
  have e1 : exL.row = [.i 40, .i 0, .i (-5), .i 15] := rfl
  have e2 : ruleRows [exR] = [[.i 1, .i 1, .i 40, .i 0, .i (-5), .i 15]] := rfl
  rw [e1] at h14
  rw [e2] at h37
  simp only [exSafe, Net.cells, Path.row, Span.row, List.map_cons, List.map_nil] at h37
  simp only [Net.cells, exP, Party.cells] at h36
  dsimp only at h14 h37
  generalize exN.paths.map Path.row = P at h36 h37
  generalize exN.places = pl at h36 h37
  generalize scenRows exF = FF at h35 h14 h37
  refine fn_walk 69 Tryz.call9 Tryz.func9 rfl (by decide) fun J => ?_
  simp (maxSteps := 4000000) only [go_sem, St.start, Tryz.ntmps9, Tryz.results9]
  repeat (first | refine walkL_seq ?_ | refine walkL_skip ?_ | refine walkL_block ?_ | (refine walkL_region fun K hK => ?_; simp (maxSteps := 4000000) only [go_sem]; (repeat (first | (refine ⟨_, .lent (hf := h35) (hd := rfl) (hr := rfl), ?_⟩; simp (maxSteps := 4000000) only [go_sem]) | (refine ⟨_, .lent (hf := h36) (hd := rfl) (hr := rfl), ?_⟩; simp (maxSteps := 4000000) only [go_sem]) | (refine ⟨_, .lent (hf := h14) (hd := rfl) (hr := rfl), ?_⟩; simp (maxSteps := 4000000) only [go_sem]) | (refine ⟨_, .lent (hf := h37) (hd := rfl) (hr := rfl), ?_⟩; simp (maxSteps := 4000000) only [go_sem]) | (refine ⟨_, .lent (hf := h38) (hd := rfl) (hr := rfl), ?_⟩; simp (maxSteps := 4000000) only [go_sem]) | (refine ⟨_, .given (hf := h35) (hd := rfl) (ha := rfl), ?_⟩; simp (maxSteps := 4000000) only [go_sem]) | (refine ⟨_, .given (hf := h36) (hd := rfl) (ha := rfl), ?_⟩; simp (maxSteps := 4000000) only [go_sem]) | (refine ⟨_, .given (hf := h14) (hd := rfl) (ha := rfl), ?_⟩; simp (maxSteps := 4000000) only [go_sem]) | (refine ⟨_, .given (hf := h37) (hd := rfl) (ha := rfl), ?_⟩; simp (maxSteps := 4000000) only [go_sem]) | (refine ⟨_, .given (hf := h38) (hd := rfl) (ha := rfl), ?_⟩; simp (maxSteps := 4000000) only [go_sem]))); refine hK _ ?_; clear hK K) | (refine walkL_drawn (by kernel_rfl) (by kernel_rfl) fun K hK => ?_; simp (maxSteps := 4000000) only [go_sem]; (repeat (first | (refine ⟨_, .fn (hf := h35) (hd := rfl) (hr := .inl rfl), ?_⟩; simp (maxSteps := 4000000) only [go_sem]) | (refine ⟨_, .fn (hf := h36) (hd := rfl) (hr := .inl rfl), ?_⟩; simp (maxSteps := 4000000) only [go_sem]) | (refine ⟨_, .fn (hf := h14) (hd := rfl) (hr := .inl rfl), ?_⟩; simp (maxSteps := 4000000) only [go_sem]) | (refine ⟨_, .fn (hf := h37) (hd := rfl) (hr := .inl rfl), ?_⟩; simp (maxSteps := 4000000) only [go_sem]) | (refine ⟨_, .fn (hf := h38) (hd := rfl) (hr := .inl rfl), ?_⟩; simp (maxSteps := 4000000) only [go_sem]))); refine ⟨by kernel_rfl, hK _ ?_⟩; clear hK K) | refine walkL_nil ?_ | refine walkL_ret ?_ | refine walkL_exit ?_ | refine blockA_here ?_ | refine blockA_other rfl ?_ | refine blockA_ret ?_ | refine blockA_normal ?_ | refine thenA_ret ?_ | refine thenA_exit ?_ | refine thenA_normal ?_)
  simp (maxSteps := 4000000) only [go_sem]
end Go.Ab
namespace Go.Ab
open Go.RowKit Go.Proofs
set_option maxHeartbeats 8000000
set_option maxRecDepth 20000
attribute [local irreducible] WalkL Walk
end Go.Ab
namespace Go.Ab
open Go.RowKit Go.Proofs
set_option maxHeartbeats 4000000
set_option maxRecDepth 20000
structure RealX where
  seen : List Sight
  skies : List Sky
  lim : Limits
  len : Int
def RealX.cells (x : RealX) : List DV := [.sl (sightRows x.seen), .sl (skyRows x.skies), .i x.lim.wind, .i x.lim.rain, .i x.lim.temp.lo, .i x.lim.temp.hi, .i x.len]
structure EaseX where
  sight : Sight
  wind : Int
  rain : Int
  temp : Int
  less : Int
def EaseX.cells (y : EaseX) : List DV := [.i y.sight.hour, .i y.sight.sky.wind, .i y.sight.sky.rain, .i y.sight.sky.temp, .i y.wind, .i y.rain, .i y.temp, .i y.less]
theorem addSpan_in (A : List Span) (hA : ∀ s ∈ A, s.lo ≤ s.hi) (i x : Int) : inSpans (addSpan A i) x = (inSpans A x || (x == i)) := by
  rcases last_split A with rfl | ⟨B, s, rfl⟩
  · rw [Bool.eq_iff_iff]
    simp [addSpan, inSpans, withinB]
    omega
  · rw [addSpan_app]
    have hs := hA s (by simp)
    split
    · rename_i h
      have h : s.hi = i - 1 := by simpa using h
      have e : (s.lo ≤ x ∧ x ≤ i) ↔ ((s.lo ≤ x ∧ x ≤ s.hi) ∨ x = i) := by omega
      rw [Bool.eq_iff_iff]
      simp only [inSpans, withinB, List.any_append, List.any_cons, List.any_nil, Bool.or_false, Bool.or_eq_true, Bool.and_eq_true, decide_eq_true_eq, beq_iff_eq]
      rw [e, or_assoc]
    · rw [Bool.eq_iff_iff]
      have e : (i ≤ x ∧ x ≤ i) ↔ x = i := by omega
      simp only [inSpans, withinB, List.any_append, List.any_cons, List.any_nil, Bool.or_false, Bool.or_eq_true, Bool.and_eq_true, decide_eq_true_eq, beq_iff_eq]
      rw [e]
theorem addSpan_ok {A : List Span} {n : Nat} (hA : ∀ s ∈ A, 0 ≤ s.lo ∧ s.lo ≤ s.hi ∧ s.hi < (n : Int)) : ∀ s ∈ addSpan A (n : Int), 0 ≤ s.lo ∧ s.lo ≤ s.hi ∧ s.hi < ((n + 1 : Nat) : Int) := by
  rcases last_split A with rfl | ⟨B, s, rfl⟩
  · intro x hx
    simp only [addSpan, List.getLast?_nil, List.mem_singleton] at hx
    subst hx
    dsimp only
    omega
  · rw [addSpan_app]
    have hs := hA s (by simp)
    intro x hx
    split at hx
    · rcases List.mem_append.1 hx with hx | hx
      · have := hA x (by simp [hx]); omega
      · simp only [List.mem_singleton] at hx
        subst hx
        dsimp only
        omega
    · rcases List.mem_append.1 hx with hx | hx
      · have := hA x hx; omega
      · simp only [List.mem_singleton] at hx
        subst hx
        dsimp only
        omega
theorem spansQ_ok (q : Nat → Bool) : ∀ n, ∀ s ∈ spansQ q n, 0 ≤ s.lo ∧ s.lo ≤ s.hi ∧ s.hi < (n : Int)
  | 0 => fun s hs => by simp [spansQ] at hs
  | n + 1 => by
    have ih := spansQ_ok q n
    rw [spansQ]
    split
    · exact addSpan_ok ih
    · intro s hs
      have := ih s hs
      omega
theorem inSpans_spansQ (q : Nat → Bool) (x : Nat) : ∀ n, inSpans (spansQ q n) (x : Int) = (decide (x < n) && q x)
  | 0 => by simp [spansQ, inSpans]
  | n + 1 => by
    have ih := inSpans_spansQ q x n
    rw [spansQ]
    by_cases hx : x = n
    · subst hx
      have h0 : inSpans (spansQ q x) (x : Int) = false := by rw [ih]; simp
      split
      · rename_i hq
        rw [addSpan_in _ (fun s hs => (spansQ_ok q x s hs).2.1), hq]
        simp
      · rename_i hq
        rw [h0]
        simp [Bool.eq_false_iff.2 hq]
    · have e : decide (x < n + 1) = decide (x < n) := by
        by_cases h : x < n
        · rw [decide_eq_true h, decide_eq_true (by omega)]
        · rw [decide_eq_false h, decide_eq_false (by omega)]
      have e2 : ((x : Int) == (n : Int)) = false := by
        have : ¬ (x : Int) = (n : Int) := by omega
        simpa using this
      rw [e]
      split
      · rw [addSpan_in _ (fun s hs => (spansQ_ok q n s hs).2.1), ih, e2, Bool.or_false]
      · exact ih
theorem inside5_iff {s : Sky} {h : Hour} : insideB s h = true ↔ (h.wind.lo ≤ s.wind ∧ s.wind ≤ h.wind.hi) ∧ (h.rain.lo ≤ s.rain ∧ s.rain ≤ h.rain.hi) ∧ (h.temp.lo ≤ s.temp ∧ s.temp ≤ h.temp.hi) := by
  simp [insideB, withinB]
theorem kept_iff {s : Sky} {l : Limits} : keptB s l = true ↔ s.wind ≤ l.wind ∧ s.rain ≤ l.rain ∧ l.temp.lo ≤ s.temp ∧ s.temp ≤ l.temp.hi := by simp [keptB, withinB]
theorem always_iff {l : Limits} {h : Hour} : alwaysB l h = true ↔ h.wind.hi ≤ l.wind ∧ h.rain.hi ≤ l.rain ∧ l.temp.lo ≤ h.temp.lo ∧ h.temp.hi ≤ l.temp.hi := by simp [alwaysB]
theorem ever_iff {l : Limits} {h : Hour} : everB l h = true ↔ h.wind.lo ≤ l.wind ∧ h.rain.lo ≤ l.rain ∧ max l.temp.lo h.temp.lo ≤ min l.temp.hi h.temp.hi := by simp [everB]
theorem always_kept {x : Sky} {l : Limits} {h : Hour} (hi : insideB x h = true) (ha : alwaysB l h = true) : keptB x l = true := by
  rw [inside5_iff] at hi
  rw [always_iff] at ha
  rw [kept_iff]
  omega
theorem kept_ever {x : Sky} {l : Limits} {h : Hour} (hi : insideB x h = true) (hk : keptB x l = true) : everB l h = true := by
  rw [inside5_iff] at hi
  rw [kept_iff] at hk
  rw [ever_iff]
  omega
def IsBegin (l : List Bool) (n h : Nat) : Prop := ∀ k, h ≤ k → k < h + n → l[k]? = some true
theorem begins_from {n : Nat} (hn : 1 ≤ n) (L : List Bool) : ∀ (b : List Bool) (i run : Nat), L.drop i = b → run < n → run ≤ i → (∀ k, i - run ≤ k → k < i → L[k]? = some true) → (run < i → L[i - run - 1]? = some false) → (∀ h, h + n ≤ i → ¬ IsBegin L n h) →
    (beginsFrom (n : Int) b i run = -1 ∧ ∀ h, ¬ IsBegin L n h) ∨ ∃ r : Nat, beginsFrom (n : Int) b i run = r ∧ IsBegin L n r ∧ ∀ h < r, ¬ IsBegin L n h
  | [], i, run, hd, h1, h2, h3, h4, h5 => by
    refine .inl ⟨rfl, fun h hb => ?_⟩
    have hl : L.length ≤ i := by
      have := congrArg List.length hd
      simp at this
      omega
    have := hb (h + n - 1) (by omega) (by omega)
    have : h + n - 1 < L.length := (List.getElem?_eq_some_iff.1 this).1
    exact h5 h (by omega) hb
  | x :: b, i, run, hd, h1, h2, h3, h4, h5 => by
    have hx : L[i]? = some x := by
      have := congrArg (·[0]?) hd
      simpa using this
    have hd' : L.drop (i + 1) = b := by
      have := congrArg List.tail hd
      simpa using this
    rw [beginsFrom]
    cases x
    · simp only [Bool.false_eq_true, if_false]
      rw [if_neg (by omega)]
      refine begins_from hn L b (i + 1) 0 hd' (by omega) (by omega) (fun k _ _ => by omega) (fun _ => by simpa using hx) ?_
      intro h hh hb
      by_cases hc : h + n ≤ i
      · exact h5 h hc hb
      · have := hb i (by omega) (by omega)
        rw [hx] at this
        cases this
    · simp only [if_true]
      by_cases he : (run : Int) + 1 = n
      · rw [if_pos he]
        refine .inr ⟨i - run, by omega, fun k hk1 hk2 => ?_, fun h hh => h5 h (by omega)⟩
        by_cases hk : k = i
        · rw [hk]; exact hx
        · exact h3 k hk1 (by omega)
      · rw [if_neg he]
        have := begins_from hn L b (i + 1) (run + 1) hd' (by omega) (by omega) (fun k hk1 hk2 => by
          by_cases hk : k = i
          · rw [hk]; exact hx
          · exact h3 k (by omega) (by omega)) (fun hlt => by
            have := h4 (by omega)
            rw [show i + 1 - (run + 1) - 1 = i - run - 1 by omega]
            exact this) ?_
        · simpa using this
        · intro h hh hb
          by_cases hc : h + n ≤ i
          · exact h5 h hc hb
          · by_cases hr : run < i
            · have e := hb (i - run - 1) (by omega) (by omega)
              rw [h4 hr] at e
              cases e
            · omega
theorem begins_spec {n : Nat} (hn : 1 ≤ n) (l : List Bool) : (beginsF l n = -1 ∧ ∀ h, ¬ IsBegin l n h) ∨ ∃ r : Nat, beginsF l n = r ∧ IsBegin l n r ∧ ∀ h < r, ¬ IsBegin l n h := by
  have := begins_from hn l l 0 0 rfl (by omega) (by omega) (fun k _ h => by omega) (fun h => by omega) (fun h hh => by omega)
  exact this
theorem begins_of {n : Nat} (hn : 1 ≤ n) {l : List Bool} {h : Nat} (hb : IsBegin l n h) : 0 ≤ beginsF l n ∧ beginsF l n ≤ h := by
  rcases begins_spec hn l with ⟨_, h2⟩ | ⟨r, h1, h2, h3⟩
  · exact absurd hb (h2 h)
  · rw [h1]
    refine ⟨by omega, ?_⟩
    by_cases hc : h < r
    · exact absurd hb (h3 h hc)
    · omega
theorem begins_is {n : Nat} (hn : 1 ≤ n) {l : List Bool} (h : 0 ≤ beginsF l n) : IsBegin l n (beginsF l n).toNat := by
  rcases begins_spec hn l with ⟨h1, _⟩ | ⟨r, h1, h2, h3⟩
  · omega
  · rw [h1]; simpa using h2
theorem begins_end {n : Nat} (hn : 1 ≤ n) {l : List Bool} (h : 0 ≤ beginsF l n) : beginsF l n + n ≤ l.length := by
  have := begins_is hn h ((beginsF l n).toNat + n - 1) (by omega) (by omega)
  have := (List.getElem?_eq_some_iff.1 this).1
  omega
theorem begins_eq {n : Nat} (hn : 1 ≤ n) {l : List Bool} {h : Nat} (hb : IsBegin l n h) (hm : ∀ h' < h, ¬ IsBegin l n h') : beginsF l n = h := by
  have := begins_of hn hb
  by_cases hc : (beginsF l n).toNat < h
  · exact absurd (begins_is hn this.1) (hm _ hc)
  · omega
theorem begins_no {n : Nat} (hn : 1 ≤ n) {l : List Bool} (hm : ∀ h' : Nat, ¬ IsBegin l n h') : beginsF l n = -1 := by
  rcases begins_spec hn l with ⟨h1, _⟩ | ⟨r, h1, h2, h3⟩
  · exact h1
  · exact absurd h2 (hm r)
def LeB (A B : List Bool) : Prop := ∀ k : Nat, A[k]? = some true → B[k]? = some true
theorem LeB.drop {A B : List Bool} (h : LeB A B) (k : Nat) : LeB (A.drop k) (B.drop k) := fun i hi => by
  rw [List.getElem?_drop] at hi ⊢
  exact h _ hi
theorem begins_mono {n : Nat} (hn : 1 ≤ n) {A B : List Bool} (h : LeB A B) (hA : 0 ≤ beginsF A n) : 0 ≤ beginsF B n ∧ beginsF B n ≤ beginsF A n := by
  have := begins_of hn (l := B) (h := (beginsF A n).toNat) (fun k h1 h2 => h k (begins_is hn hA k h1 h2))
  omega
theorem gapAt_mono {n : Nat} (hn : 1 ≤ n) {A B : List Bool} (h : LeB A B) (hl : A.length = B.length) {k : Nat} (hk : k ≤ A.length) : gapAt B n k ≤ gapAt A n k := by
  unfold gapAt
  by_cases hA : 0 ≤ beginsF (A.drop k) n
  · have := begins_mono hn (h.drop k) hA
    rw [if_pos (show decide (beginsF (A.drop k) n ≥ 0) = true by simpa using hA), if_pos (show decide (beginsF (B.drop k) n ≥ 0) = true by simpa using this.1)]
    omega
  · rw [if_neg (show ¬ decide (beginsF (A.drop k) n ≥ 0) = true by simpa using hA)]
    by_cases hB : 0 ≤ beginsF (B.drop k) n
    · have := begins_end hn hB
      rw [List.length_drop] at this
      rw [if_pos (show decide (beginsF (B.drop k) n ≥ 0) = true by simpa using hB)]
      omega
    · rw [if_neg (show ¬ decide (beginsF (B.drop k) n ≥ 0) = true by simpa using hB)]
      omega
theorem gapTo_le {b : List Bool} {n : Int} {G : Int} : ∀ (k : Nat) (g : Int), gapTo b n k g ≤ G ↔ g ≤ G ∧ ∀ j < k, gapAt b n j ≤ G
  | 0, g => by simp [gapTo]
  | k + 1, g => by
    rw [gapTo, Int.max_le, gapTo_le k g]
    constructor
    · rintro ⟨⟨h1, h2⟩, h3⟩
      refine ⟨h1, fun j hj => ?_⟩
      rcases Nat.lt_succ_iff_lt_or_eq.1 hj with h | rfl
      · exact h2 j h
      · exact h3
    · rintro ⟨h1, h2⟩
      exact ⟨⟨h1, fun j hj => h2 j (by omega)⟩, h2 k (by omega)⟩
theorem gapS_fold {l : Limits} {n : Int} {G : Int} : ∀ (S : List (List Hour)) (g : Int), S.foldl (fun g s => gapTo (s.map (alwaysB l)) n s.length g) g ≤ G ↔ g ≤ G ∧ ∀ s ∈ S, ∀ j < s.length, gapAt (s.map (alwaysB l)) n j ≤ G
  | [], g => by simp
  | s :: S, g => by
    rw [List.foldl_cons, gapS_fold S, gapTo_le]
    simp only [List.mem_cons, forall_eq_or_imp, and_assoc]
theorem gapS_le {l : Limits} {n : Int} {G : Int} {S : List (List Hour)} : gapS l n S ≤ G ↔ 0 ≤ G ∧ ∀ s ∈ S, ∀ j < s.length, gapAt (s.map (alwaysB l)) n j ≤ G := gapS_fold S 0
theorem winFirst_le {l : Limits} {n G : Int} : ∀ (S : List (List Hour)) (H : Int), G ≤ winFirst l n S H ↔ G ≤ H ∧ ∀ s ∈ S, 0 ≤ beginsF (s.map (everB l)) n → G ≤ beginsF (s.map (everB l)) n
  | [], H => by simp [winFirst]
  | s :: S, H => by
    have ih := winFirst_le (l := l) (n := n) (G := G) S
    unfold winFirst at ih ⊢
    rw [List.foldl_cons, ih]
    simp only [List.mem_cons, forall_eq_or_imp]
    by_cases h : 0 ≤ beginsF (s.map (everB l)) n
    · rw [if_pos (by simpa using h), Int.le_min]
      constructor
      · rintro ⟨⟨h1, h2⟩, h3⟩; exact ⟨h1, fun _ => h2, h3⟩
      · rintro ⟨h1, h2, h3⟩; exact ⟨⟨h1, h2 h⟩, h3⟩
    · rw [if_neg (by simpa using h)]
      constructor
      · rintro ⟨h1, h3⟩; exact ⟨h1, fun hc => absurd hc h, h3⟩
      · rintro ⟨h1, _, h3⟩; exact ⟨h1, h3⟩
theorem winLast_fold {l : Limits} {n G : Int} : ∀ (S : List (List Hour)) (a : Int), S.foldl (fun a s => max a (beginsF (s.map (alwaysB l)) n)) a ≤ G ↔ a ≤ G ∧ ∀ s ∈ S, beginsF (s.map (alwaysB l)) n ≤ G
  | [], a => by simp
  | s :: S, a => by
    rw [List.foldl_cons, winLast_fold S, Int.max_le]
    simp only [List.mem_cons, forall_eq_or_imp, and_assoc]
theorem winLast_le {l : Limits} {n G : Int} {S : List (List Hour)} : winLast l n S ≤ G ↔ -1 ≤ G ∧ ∀ s ∈ S, beginsF (s.map (alwaysB l)) n ≤ G := winLast_fold S _
def keptL (m : List Sky) (l : Limits) : List Bool := m.map fun x => keptB x l
theorem map_hour {s : List Hour} {q : Hour → Bool} {k : Nat} (hk : k < s.length) : (s.map q)[k]? = some (q (hourAt s (k : Int))) := by
  rw [List.getElem?_map]
  have := hourAt_get (l := s) (i := (k : Int)) ⟨by omega, by omega⟩
  rw [Int.toNat_natCast] at this
  rw [this]
  rfl
theorem keptL_at {m : List Sky} {l : Limits} {k : Nat} (hk : k < m.length) : (keptL m l)[k]? = some (keptB (skyAt m k) l) := by
  rw [keptL, List.getElem?_map, skyAt_get hk]
  rfl
theorem kept_between {m : List Sky} {l : Limits} {s : List Hour} (hl : s.length = m.length) (hin : ∀ j < m.length, insideB (skyAt m j) (hourAt s (j : Int)) = true) :
    LeB (s.map (alwaysB l)) (keptL m l) ∧ LeB (keptL m l) (s.map (everB l)) := by
  constructor
  · intro k hk
    have hlt : k < s.length := by have := (List.getElem?_eq_some_iff.1 hk).1; simpa using this
    rw [map_hour hlt] at hk
    rw [keptL_at (by omega)]
    rw [always_kept (hin k (by omega)) (by simpa using hk)]
  · intro k hk
    have hlt : k < m.length := by have := (List.getElem?_eq_some_iff.1 hk).1; simpa [keptL] using this
    rw [keptL_at hlt] at hk
    rw [map_hour (by omega), kept_ever (hin k hlt) (by simpa using hk)]
theorem comes {S : List (List Hour)} {m : List Sky} {l : Limits} {n : Nat} (hn : 1 ≤ n) {s : List Hour} (hs : s ∈ S) (hl : s.length = m.length) (hin : ∀ j < m.length, insideB (skyAt m j) (hourAt s (j : Int)) = true) :
    (0 ≤ beginsF (keptL m l) n → 0 ≤ winFirst l n S m.length ∧ winFirst l n S m.length ≤ beginsF (keptL m l) n ∧ winFirst l n S m.length < m.length) ∧
    (winNever l n S = false → 0 ≤ beginsF (keptL m l) n ∧ beginsF (keptL m l) n ≤ winLast l n S ∧ winFirst l n S m.length ≤ winLast l n S) ∧
    ∀ k < m.length, gapAt (keptL m l) n k ≤ gapS l n S := by
  obtain ⟨hA, hE⟩ := kept_between (l := l) hl hin
  have hf := (winFirst_le S _).1 (Int.le_refl (winFirst l (n : Int) S m.length))
  have hla := winLast_le.1 (Int.le_refl (winLast l (n : Int) S))
  have hga := gapS_le.1 (Int.le_refl (gapS l (n : Int) S))
  refine ⟨fun hb => ?_, fun hnv => ?_, fun k hk => ?_⟩
  · have h1 := begins_mono hn hE hb
    have h2 := hf.2 s hs h1.1
    have h3 := begins_end hn hb
    have h4 : (keptL m l).length = m.length := by simp [keptL]
    refine ⟨(winFirst_le S _).2 ⟨by omega, fun _ _ h => h⟩, by omega, by omega⟩
  · have hs0 : 0 ≤ beginsF (s.map (alwaysB l)) n := by
      unfold winNever at hnv
      have := List.any_eq_false.1 hnv s hs
      simpa using this
    have h1 := begins_mono hn hA hs0
    have h2 := hla.2 s hs
    have h3 := begins_mono hn hE h1.1
    have h4 := hf.2 s hs h3.1
    exact ⟨h1.1, by omega, by omega⟩
  · have h1 := hga.2 s hs k (by omega)
    have h2 := gapAt_mono hn hA (by simp [keptL, hl]) (k := k) (by rw [List.length_map]; omega)
    omega
end Go.Ab
namespace Go.Ab
open Go.RowKit Go.Proofs
set_option maxHeartbeats 4000000
set_option maxRecDepth 20000
def widerL (l : Limits) (wind rain temp : Int) : Limits := ⟨min 200 (l.wind + wind), min 100 (l.rain + rain), ⟨max (-50) (l.temp.lo - temp), min 50 (l.temp.hi + temp)⟩⟩
def withinS (A B : List Span) (H : Nat) : Bool := (List.range H).all fun h => !(inSpans A (h : Int)) || inSpans B (h : Int)
end Go.Ab
namespace Go.Ab
open Go.RowKit Go.Proofs
set_option maxHeartbeats 4000000
set_option maxRecDepth 20000
def isOpenF (rules : List Rule) (m : List Sky) (p : Int) (h : Nat) : Bool :=
  rules.all fun r => !(r.path == p) || (List.range (h + 1)).all fun b => !(decide ((h : Int) - r.after ≤ (b : Int))) || keptB (skyAt m b) r.lim
def easeR (wind rain temp less : Int) (r : Rule) : Rule := ⟨r.path, max 0 (r.after - less), widerL r.lim wind rain temp⟩
end Go.Ab
namespace Go.Ab
open Go.RowKit Go.Proofs
set_option maxHeartbeats 4000000
set_option maxRecDepth 20000
theorem begin_take {L : List Bool} {n h j : Nat} (hn : 1 ≤ n) : IsBegin (L.take j) n h ↔ IsBegin L n h ∧ h + n ≤ j := by
  constructor
  · intro hb
    refine ⟨fun k h1 h2 => ?_, ?_⟩
    · have := hb k h1 h2
      rw [List.getElem?_take] at this
      split at this
      · exact this
      · cases this
    · have := hb (h + n - 1) (by omega) (by omega)
      rw [List.getElem?_take] at this
      split at this
      · omega
      · cases this
  · rintro ⟨hb, hj⟩ k h1 h2
    rw [List.getElem?_take, if_pos (by omega)]
    exact hb k h1 h2
theorem lack_iff {b : List Bool} {n : Nat} (hn : 1 ≤ n) {a j : Nat} (hj : a + j ≤ b.length) : beginsF ((b.drop a).take j) n < 0 ↔ (j : Int) ≤ gapAt b n a := by
  unfold gapAt
  have hlen : (b.drop a).length = b.length - a := List.length_drop ..
  rcases begins_spec hn (b.drop a) with ⟨h1, h2⟩ | ⟨r, h1, h2, h3⟩
  · have : beginsF ((b.drop a).take j) n = -1 := begins_no hn fun h' hb => h2 h' ((begin_take hn).1 hb).1
    rw [this, h1]
    simp
    omega
  · rw [h1, if_pos (by simp)]
    by_cases hc : r + n ≤ j
    · have := begins_of hn ((begin_take hn).2 ⟨h2, hc⟩)
      omega
    · have : beginsF ((b.drop a).take j) n = -1 := begins_no hn fun h' hb => by
        have := (begin_take hn).1 hb
        by_cases hlt : h' < r
        · exact h3 h' hlt this.1
        · omega
      omega
theorem gapAt_range {b : List Bool} {n : Nat} (hn : 1 ≤ n) {a : Nat} (ha : a ≤ b.length) : 0 ≤ gapAt b n a ∧ gapAt b n a ≤ (b.length : Int) - a := by
  unfold gapAt
  have hlen : (b.drop a).length = b.length - a := List.length_drop ..
  by_cases h : 0 ≤ beginsF (b.drop a) n
  · have := begins_end hn h
    rw [if_pos (by simpa using h)]
    omega
  · rw [if_neg (by simpa using h)]
    omega
def allTo (b : List Bool) (h j : Nat) : Bool := ((b.drop h).take j).all id
theorem allTo_succ {b : List Bool} {h j : Nat} {x : Bool} (hx : b[h + j]? = some x) : allTo b h (j + 1) = (allTo b h j && x) := by
  unfold allTo
  rw [List.take_add_one, List.getElem?_drop, hx, List.all_append]
  simp
theorem allTo_iff {b : List Bool} {h n : Nat} (hl : h + n ≤ b.length) : allTo b h n = true ↔ IsBegin b n h := by
  unfold allTo IsBegin
  rw [List.all_eq_true]
  constructor
  · intro ha k h1 h2
    obtain ⟨x, hx⟩ : ∃ x, b[k]? = some x := ⟨_, List.getElem?_eq_getElem (by omega)⟩
    have hm : x ∈ (b.drop h).take n := by
      refine List.mem_of_getElem? (i := k - h) ?_
      rw [List.getElem?_take, if_pos (by omega), List.getElem?_drop, show h + (k - h) = k by omega, hx]
    have := ha x hm
    rw [hx]
    simpa using this
  · intro ha x hx
    obtain ⟨i, hi⟩ := List.getElem?_of_mem hx
    rw [List.getElem?_take] at hi
    split at hi
    · rw [List.getElem?_drop, ha (h + i) (by omega) (by omega)] at hi
      cases hi
      rfl
    · cases hi
end Go.Ab
namespace Go.Ab
open Go.RowKit Go.Proofs
set_option maxHeartbeats 4000000
set_option maxRecDepth 20000
attribute [local irreducible] WalkL Walk
def weathersB (F : List (List Hour)) (seen : List Sight) (m : List Sky) : Bool := !far5 F seen && (decide (seenF F seen = 0) && weB F seen m)
end Go.Ab
namespace Go.Ab
open Go.RowKit Go.Proofs
set_option maxHeartbeats 8000000
set_option maxRecDepth 20000
attribute [local irreducible] WalkL Walk
end Go.Ab
namespace Go.Ab
open Go.RowKit Go.Proofs
set_option maxHeartbeats 8000000
set_option maxRecDepth 20000
attribute [local irreducible] WalkL Walk
theorem f73 (b : List Bool) (n : Int) (hn : 1 ≤ n ∧ n ≤ 1000) (hl : b.length < 2 ^ 30) : Fn Tryz.prog 73 [.sl (boolRows b), .i n] (.i (beginsF b n)) := by
  obtain ⟨N, hN⟩ : ∃ N : Nat, n = N := ⟨n.toNat, by omega⟩
  subst hN
  have hN1 : 1 ≤ N := by omega
  refine fn_walk 33 Tryz.call73 Tryz.func73 rfl (by decide) fun J => ?_
  simp (maxSteps := 4000000) only [go_sem, St.start, Tryz.ntmps73, Tryz.results73]
  repeat (first | refine walkL_seq ?_ | refine walkL_skip ?_ | refine walkL_block ?_ | (refine walkL_region fun K hK => ?_; simp (maxSteps := 4000000) only [go_sem]; refine hK _ ?_; clear hK K) | refine walkL_nil ?_ | refine walkL_ret ?_ | refine walkL_exit ?_ | refine blockA_here ?_ | refine blockA_other rfl ?_ | refine blockA_ret ?_ | refine blockA_normal ?_ | refine thenA_ret ?_ | refine thenA_exit ?_ | refine thenA_normal ?_)
  refine walkL_loopS (fun (h : Nat) => [(5, .d (.i h)), (6, .undef), (7, .undef)]) (fun _ => []) (fun h => h ≤ b.length ∧ ∀ h' < h, ¬ IsBegin b N h') (fun h => b.length - h) 0 ?_ ⟨Nat.zero_le _, fun _ h => by omega⟩ ?_
  · simp (maxSteps := 4000000) only [go_sem]
    refine weak_of [] ?_ ?_ rfl rfl <;> simp [lessT, lessM, lessB, AV.less]
    all_goals first | done | rfl
  · intro h ⟨hh, hno⟩
    have w1 : IntKind.i64.wrap ((h : Int) + (N : Int)) = ((h + N : Nat) : Int) := by rw [wr_small (by omega)]; simp
    simp (maxSteps := 4000000) only [go_sem]
    repeat (first | refine walkL_seq ?_ | refine walkL_skip ?_ | refine walkL_block ?_ | (refine walkL_region fun K hK => ?_; simp (maxSteps := 4000000) only [go_sem, w1, boolRows_len]; refine hK _ ?_; clear hK K) | refine walkL_nil ?_ | refine walkL_ret ?_ | refine walkL_exit ?_ | refine blockA_here ?_ | refine blockA_other rfl ?_ | refine blockA_ret ?_ | refine blockA_normal ?_ | refine thenA_ret ?_ | refine thenA_exit ?_ | refine thenA_normal ?_)
    refine walkL_cond rfl (fun hb => ?_) (fun hb => ?_)
    · have hle : h + N ≤ b.length := by have := of_decide_eq_true hb; omega
      have hw : IntKind.i64.wrap ((h : Int) + 1) = ((h + 1 : Nat) : Int) := by rw [wr_small (by omega)]; simp
      repeat (first | refine walkL_seq ?_ | refine walkL_skip ?_ | refine walkL_block ?_ | (refine walkL_region fun K hK => ?_; simp (maxSteps := 4000000) only [go_sem]; refine hK _ ?_; clear hK K) | refine walkL_nil ?_ | refine walkL_ret ?_ | refine walkL_exit ?_ | refine blockA_here ?_ | refine blockA_other rfl ?_ | refine blockA_ret ?_ | refine blockA_normal ?_ | refine thenA_ret ?_ | refine thenA_exit ?_ | refine thenA_normal ?_)
      refine walkL_loopS (fun (j : Nat) => [(7, .d (.i ((h + j : Nat) : Int))), (6, .d (.bool (allTo b h j)))]) (fun _ => []) (fun j => j ≤ N) (fun j => N - j) 0 ?_ (Nat.zero_le _) ?_
      · simp (maxSteps := 4000000) only [go_sem]
        refine weak_of [] ?_ ?_ rfl rfl <;> simp [lessT, lessM, lessB, AV.less]
        all_goals first | done | rfl
      · intro j hj
        simp (maxSteps := 4000000) only [go_sem]
        repeat (first | refine walkL_seq ?_ | refine walkL_skip ?_ | refine walkL_block ?_ | (refine walkL_region fun K hK => ?_; simp (maxSteps := 4000000) only [go_sem, w1]; refine hK _ ?_; clear hK K) | refine walkL_nil ?_ | refine walkL_ret ?_ | refine walkL_exit ?_ | refine blockA_here ?_ | refine blockA_other rfl ?_ | refine blockA_ret ?_ | refine blockA_normal ?_ | refine thenA_ret ?_ | refine thenA_exit ?_ | refine thenA_normal ?_)
        refine walkL_cond rfl (fun hb => ?_) (fun hb => ?_)
        · have hlt : j < N := by have := of_decide_eq_true hb; omega
          have hwj : IntKind.i64.wrap (((h + j : Nat) : Int) + 1) = ((h + (j + 1) : Nat) : Int) := by rw [wr_small (by omega)]; omega
          obtain ⟨x, hx⟩ : ∃ x, b[h + j]? = some x := ⟨_, List.getElem?_eq_getElem (by omega)⟩
          have g1 := boolRows_at hx
          have hnx := allTo_succ hx
          cases q : allTo b h j
          · rw [q, Bool.false_and] at hnx
            repeat (first | refine walkL_true rfl ?_ | refine walkL_false rfl ?_ | refine walkL_seq ?_ | refine walkL_skip ?_ | refine walkL_block ?_ | (refine walkL_region fun K hK => ?_; simp (maxSteps := 4000000) only [go_sem, hwj]; refine hK _ ?_; clear hK K) | refine walkL_nil ?_ | refine walkL_ret ?_ | refine walkL_exit ?_ | refine blockA_here ?_ | refine blockA_other rfl ?_ | refine blockA_ret ?_ | refine blockA_normal ?_ | refine thenA_ret ?_ | refine thenA_exit ?_ | refine thenA_normal ?_)
            refine ⟨rfl, j + 1, ?_, hlt, by omega⟩
            rw [hnx]
            refine weak_of [] ?_ ?_ rfl rfl <;> simp [lessT, lessM, lessB, AV.less]
          · rw [q, Bool.true_and] at hnx
            repeat (first | refine walkL_true rfl ?_ | refine walkL_false rfl ?_ | refine walkL_seq ?_ | refine walkL_skip ?_ | refine walkL_block ?_ | (refine walkL_region fun K hK => ?_; simp (maxSteps := 4000000) only [go_sem, g1, hwj]; refine hK _ ?_; clear hK K) | refine walkL_nil ?_ | refine walkL_ret ?_ | refine walkL_exit ?_ | refine blockA_here ?_ | refine blockA_other rfl ?_ | refine blockA_ret ?_ | refine blockA_normal ?_ | refine thenA_ret ?_ | refine thenA_exit ?_ | refine thenA_normal ?_)
            refine ⟨rfl, j + 1, ?_, hlt, by omega⟩
            rw [hnx]
            refine weak_of [] ?_ ?_ rfl rfl <;> simp [lessT, lessM, lessB, AV.less]
        · have he : j = N := by (have : ¬ (((h + j : Nat) : Int) < ((h + N : Nat) : Int)) := by simpa using hb); omega
          subst he
          cases q : allTo b h j
          · have hnb : ¬ IsBegin b j h := fun hc => by rw [(allTo_iff hle).2 hc] at q; cases q
            repeat (first | refine walkL_true rfl ?_ | refine walkL_false rfl ?_ | refine walkL_seq ?_ | refine walkL_skip ?_ | refine walkL_block ?_ | (refine walkL_region fun K hK => ?_; simp (maxSteps := 4000000) only [go_sem, hw]; refine hK _ ?_; clear hK K) | refine walkL_nil ?_ | refine walkL_ret ?_ | refine walkL_exit ?_ | refine blockA_here ?_ | refine blockA_other rfl ?_ | refine blockA_ret ?_ | refine blockA_normal ?_ | refine thenA_ret ?_ | refine thenA_exit ?_ | refine thenA_normal ?_)
            refine ⟨rfl, h + 1, ?_, ⟨by omega, fun h' hlt' => by
              by_cases he : h' = h
              · subst he; exact hnb
              · exact hno h' (by omega)⟩, by omega⟩
            refine weak_of [] ?_ ?_ rfl rfl <;> simp [lessT, lessM, lessB, AV.less]
          · have e := begins_eq hN1 ((allTo_iff hle).1 q) hno
            rw [e]
            repeat (first | refine walkL_true rfl ?_ | refine walkL_false rfl ?_ | refine walkL_seq ?_ | refine walkL_skip ?_ | refine walkL_block ?_ | (refine walkL_region fun K hK => ?_; simp (maxSteps := 4000000) only [go_sem]; refine hK _ ?_; clear hK K) | refine walkL_nil ?_ | refine walkL_ret ?_ | refine walkL_exit ?_ | refine blockA_here ?_ | refine blockA_other rfl ?_ | refine blockA_ret ?_ | refine blockA_normal ?_ | refine thenA_ret ?_ | refine thenA_exit ?_ | refine thenA_normal ?_)
            simp (maxSteps := 4000000) only [go_sem]
    · have hgt : b.length < h + N := by (have : ¬ (((h + N : Nat) : Int) ≤ (b.length : Int)) := by simpa using hb); omega
      have e := begins_no hN1 (l := b) fun h' hc => by
        by_cases hlt : h' < h
        · exact hno h' hlt hc
        · have := (List.getElem?_eq_some_iff.1 (hc (h' + N - 1) (by omega) (by omega))).1
          omega
      rw [e]
      repeat (first | refine walkL_seq ?_ | refine walkL_skip ?_ | refine walkL_block ?_ | (refine walkL_region fun K hK => ?_; simp (maxSteps := 4000000) only [go_sem]; refine hK _ ?_; clear hK K) | refine walkL_nil ?_ | refine walkL_ret ?_ | refine walkL_exit ?_ | refine blockA_here ?_ | refine blockA_other rfl ?_ | refine blockA_ret ?_ | refine blockA_normal ?_ | refine thenA_ret ?_ | refine thenA_exit ?_ | refine thenA_normal ?_)
      simp (maxSteps := 4000000) only [go_sem]
end Go.Ab
namespace Go.Ab
open Go.RowKit Go.Proofs
set_option maxHeartbeats 8000000
set_option maxRecDepth 20000
attribute [local irreducible] WalkL Walk
theorem gapTo_nonneg {b : List Bool} {n : Int} : ∀ (k : Nat) (g : Int), 0 ≤ g → 0 ≤ gapTo b n k g
  | 0, g, h => h
  | k + 1, g, h => by
    have := gapTo_nonneg (b := b) (n := n) k g h
    rw [gapTo]
    omega
theorem f74 (b : List Bool) (n : Int) (hn : 1 ≤ n ∧ n ≤ 1000) (hl : b.length < 2 ^ 30) : Fn Tryz.prog 74 [.sl (boolRows b), .i n] (.i (gapTo b n b.length 0)) := by
  obtain ⟨N, hN⟩ : ∃ N : Nat, n = N := ⟨n.toNat, by omega⟩
  subst hN
  have hN1 : 1 ≤ N := by omega
  refine fn_walk 36 Tryz.call74 Tryz.func74 rfl (by decide) fun J => ?_
  simp (maxSteps := 4000000) only [go_sem, St.start, Tryz.ntmps74, Tryz.results74]
  repeat (first | refine walkL_seq ?_ | refine walkL_skip ?_ | refine walkL_block ?_ | (refine walkL_region fun K hK => ?_; simp (maxSteps := 4000000) only [go_sem]; refine hK _ ?_; clear hK K) | refine walkL_nil ?_ | refine walkL_ret ?_ | refine walkL_exit ?_ | refine blockA_here ?_ | refine blockA_other rfl ?_ | refine blockA_ret ?_ | refine blockA_normal ?_ | refine thenA_ret ?_ | refine thenA_exit ?_ | refine thenA_normal ?_)
  refine walkL_loopS (fun (a : Nat) => [(6, .d (.i a)), (5, .d (.i (gapTo b N a 0))), (7, .undef)]) (fun _ => []) (fun a => a ≤ b.length) (fun a => b.length - a) 0 ?_ (Nat.zero_le _) ?_
  · simp (maxSteps := 4000000) only [go_sem]
    refine weak_of [] ?_ ?_ rfl rfl <;> simp [lessT, lessM, lessB, AV.less]
    all_goals first | done | rfl
  · intro a ha
    have g0 := gapTo_nonneg (b := b) (n := (N : Int)) a 0 (Int.le_refl _)
    have e1 : gapTo b N (a + 1) 0 = max (gapTo b N a 0) (gapAt b N a) := rfl
    obtain ⟨x, hx0⟩ : ∃ x, x = gapTo b (N : Int) a 0 := ⟨_, rfl⟩
    rw [← hx0] at e1 g0 ⊢
    simp (maxSteps := 4000000) only [go_sem]
    repeat (first | refine walkL_seq ?_ | refine walkL_skip ?_ | refine walkL_block ?_ | (refine walkL_region fun K hK => ?_; simp (maxSteps := 4000000) only [go_sem, boolRows_len]; refine hK _ ?_; clear hK K) | refine walkL_nil ?_ | refine walkL_ret ?_ | refine walkL_exit ?_ | refine blockA_here ?_ | refine blockA_other rfl ?_ | refine blockA_ret ?_ | refine blockA_normal ?_ | refine thenA_ret ?_ | refine thenA_exit ?_ | refine thenA_normal ?_)
    refine walkL_cond rfl (fun hb => ?_) (fun hb => ?_)
    · have hlt : a < b.length := by simpa using hb
      have hw : IntKind.i64.wrap ((a : Int) + 1) = ((a + 1 : Nat) : Int) := by rw [wr_small (by omega)]; simp
      have hga := gapAt_range hN1 (b := b) (a := a) ha
      repeat (first | refine walkL_seq ?_ | refine walkL_skip ?_ | refine walkL_block ?_ | (refine walkL_region fun K hK => ?_; simp (maxSteps := 4000000) only [go_sem]; refine hK _ ?_; clear hK K) | refine walkL_nil ?_ | refine walkL_ret ?_ | refine walkL_exit ?_ | refine blockA_here ?_ | refine blockA_other rfl ?_ | refine blockA_ret ?_ | refine blockA_normal ?_ | refine thenA_ret ?_ | refine thenA_exit ?_ | refine thenA_normal ?_)
      refine walkL_loopS (fun (j : Nat) => [(7, .d (.i ((a + j : Nat) : Int))), (5, .d (.i (max x (min (j : Int) (gapAt b N a)))))]) (fun _ => []) (fun j => a + j ≤ b.length) (fun j => b.length - a - j) 0 ?_ ha ?_
      · simp (maxSteps := 4000000) only [go_sem]
        have e0 : max x (min (0 : Int) (gapAt b N a)) = x := by omega
        rw [e0]
        refine weak_of [] ?_ ?_ rfl rfl <;> simp [lessT, lessM, lessB, AV.less]
        all_goals first | done | rfl
      · intro j hj
        simp (maxSteps := 4000000) only [go_sem]
        repeat (first | refine walkL_seq ?_ | refine walkL_skip ?_ | refine walkL_block ?_ | (refine walkL_region fun K hK => ?_; simp (maxSteps := 4000000) only [go_sem, boolRows_len]; refine hK _ ?_; clear hK K) | refine walkL_nil ?_ | refine walkL_ret ?_ | refine walkL_exit ?_ | refine blockA_here ?_ | refine blockA_other rfl ?_ | refine blockA_ret ?_ | refine blockA_normal ?_ | refine thenA_ret ?_ | refine thenA_exit ?_ | refine thenA_normal ?_)
        refine walkL_cond rfl (fun hb => ?_) (fun hb => ?_)
        · have hlt : a + j < b.length := by have := of_decide_eq_true hb; omega
          have hwj : IntKind.i64.wrap (((a + j : Nat) : Int) + 1) = ((a + (j + 1) : Nat) : Int) := by rw [wr_small (by omega)]; omega
          have hwd : IntKind.i64.wrap (((a + (j + 1) : Nat) : Int) - (a : Int)) = ((j + 1 : Nat) : Int) := by rw [wr_small (by omega)]; omega
          have c2 := f73 ((b.drop a).take (j + 1)) N hn (by simp; omega)
          have hlk := lack_iff hN1 (b := b) (a := a) (j := j + 1) (by omega)
          have e2 : List.take (a + (j + 1) - a) (List.drop a (boolRows b)) = boolRows ((b.drop a).take (j + 1)) := by
            unfold boolRows
            rw [← List.map_drop, ← List.map_take, show a + (j + 1) - a = j + 1 by omega]
          obtain ⟨y, hy⟩ : ∃ y, y = beginsF ((b.drop a).take (j + 1)) N := ⟨_, rfl⟩
          rw [← hy] at c2 hlk
          obtain ⟨g, hg⟩ : ∃ g, g = gapAt b N a := ⟨_, rfl⟩
          rw [← hg] at hlk hga e1 ⊢
          have k1 : ((a : Int) ≤ ((a + (j + 1) : Nat) : Int)) := by omega
          have k2 : ((a + (j + 1) : Nat) : Int) ≤ (b.length : Int) := by omega
          have k3 : (0 : Int) ≤ (a : Int) := by omega
          have k4 : a ≤ a + (j + 1) := by omega
          have k5 : a + (j + 1) ≤ b.length := by omega
          have k6 : (0 : Int) ≤ (a : Int) ∧ (a : Int) ≤ ((a + (j + 1) : Nat) : Int) := ⟨k3, k1⟩
          cases qy : decide (y < 0)
          · have hy0 : ¬ y < 0 := of_decide_eq_false qy
            have hm : max x (min ((j + 1 : Nat) : Int) g) = max x (min (j : Int) g) := by omega
            repeat (first | refine walkL_true rfl ?_ | refine walkL_false rfl ?_ | refine walkL_seq ?_ | refine walkL_skip ?_ | refine walkL_block ?_ | (refine walkL_region fun K hK => ?_; simp (maxSteps := 4000000) only [go_sem, hwj, hwd, k1, k2, k3, k4, k5, k6, e2, qy, boolRows_len]; (repeat (first | (refine ⟨_, .lent (hf := c2) (hd := rfl) (hr := rfl), ?_⟩; simp (maxSteps := 4000000) only [go_sem, hwj, hwd, k1, k2, k3, k4, k5, k6, e2, qy, boolRows_len]) | (refine ⟨_, .given (hf := c2) (hd := rfl) (ha := rfl), ?_⟩; simp (maxSteps := 4000000) only [go_sem, hwj, hwd, k1, k2, k3, k4, k5, k6, e2, qy, boolRows_len]))); refine hK _ ?_; clear hK K) | refine walkL_nil ?_ | refine walkL_ret ?_ | refine walkL_exit ?_ | refine blockA_here ?_ | refine blockA_other rfl ?_ | refine blockA_ret ?_ | refine blockA_normal ?_ | refine thenA_ret ?_ | refine thenA_exit ?_ | refine thenA_normal ?_)
            refine ⟨rfl, j + 1, ?_, by omega, by omega⟩
            rw [hm]
            refine weak_of [] ?_ ?_ rfl rfl <;> simp [lessT, lessM, lessB, AV.less]
            all_goals first | done | rfl
          · have hy0 : y < 0 := of_decide_eq_true qy
            have hm : max x (min ((j + 1 : Nat) : Int) g) = max (max x (min (j : Int) g)) ((j + 1 : Nat) : Int) := by omega
            repeat (first | refine walkL_true rfl ?_ | refine walkL_false rfl ?_ | refine walkL_seq ?_ | refine walkL_skip ?_ | refine walkL_block ?_ | (refine walkL_region fun K hK => ?_; simp (maxSteps := 4000000) only [go_sem, hwj, hwd, k1, k2, k3, k4, k5, k6, e2, qy, boolRows_len]; (repeat (first | (refine ⟨_, .lent (hf := c2) (hd := rfl) (hr := rfl), ?_⟩; simp (maxSteps := 4000000) only [go_sem, hwj, hwd, k1, k2, k3, k4, k5, k6, e2, qy, boolRows_len]) | (refine ⟨_, .given (hf := c2) (hd := rfl) (ha := rfl), ?_⟩; simp (maxSteps := 4000000) only [go_sem, hwj, hwd, k1, k2, k3, k4, k5, k6, e2, qy, boolRows_len]))); refine hK _ ?_; clear hK K) | refine walkL_nil ?_ | refine walkL_ret ?_ | refine walkL_exit ?_ | refine blockA_here ?_ | refine blockA_other rfl ?_ | refine blockA_ret ?_ | refine blockA_normal ?_ | refine thenA_ret ?_ | refine thenA_exit ?_ | refine thenA_normal ?_)
            refine ⟨rfl, j + 1, ?_, by omega, by omega⟩
            rw [hm]
            refine weak_of [] ?_ ?_ rfl rfl <;> simp [lessT, lessM, lessB, AV.less]
            all_goals first | done | rfl
        · have he : a + j = b.length := by (have : ¬ (((a + j : Nat) : Int) < (b.length : Int)) := by simpa using hb); omega
          have hm : max x (min (j : Int) (gapAt b N a)) = gapTo b N (a + 1) 0 := by rw [e1]; omega
          rw [hm]
          repeat (first | refine walkL_seq ?_ | refine walkL_skip ?_ | refine walkL_block ?_ | (refine walkL_region fun K hK => ?_; simp (maxSteps := 4000000) only [go_sem, hw]; refine hK _ ?_; clear hK K) | refine walkL_nil ?_ | refine walkL_ret ?_ | refine walkL_exit ?_ | refine blockA_here ?_ | refine blockA_other rfl ?_ | refine blockA_ret ?_ | refine blockA_normal ?_ | refine thenA_ret ?_ | refine thenA_exit ?_ | refine thenA_normal ?_)
          refine ⟨rfl, a + 1, ?_, by omega, by omega⟩
          refine weak_of [] ?_ ?_ rfl rfl <;> simp [lessT, lessM, lessB, AV.less]
          all_goals first | done | rfl
    · have he : a = b.length := by (have : ¬ a < b.length := by simpa using hb); omega
      subst he
      rw [hx0]
      repeat (first | refine walkL_seq ?_ | refine walkL_skip ?_ | refine walkL_block ?_ | (refine walkL_region fun K hK => ?_; simp (maxSteps := 4000000) only [go_sem]; refine hK _ ?_; clear hK K) | refine walkL_nil ?_ | refine walkL_ret ?_ | refine walkL_exit ?_ | refine blockA_here ?_ | refine blockA_other rfl ?_ | refine blockA_ret ?_ | refine blockA_normal ?_ | refine thenA_ret ?_ | refine thenA_exit ?_ | refine thenA_normal ?_)
      simp (maxSteps := 4000000) only [go_sem]
end Go.Ab
namespace Go.Ab
open Go.RowKit Go.Proofs
set_option maxHeartbeats 8000000
set_option maxRecDepth 20000
attribute [local irreducible] WalkL Walk
end Go.Ab
namespace Go.Ab
open Go.RowKit Go.Proofs
set_option maxHeartbeats 8000000
set_option maxRecDepth 20000
attribute [local irreducible] WalkL Walk
end Go.Ab
namespace Go.Ab
open Go.RowKit Go.Proofs
set_option maxHeartbeats 8000000
set_option maxRecDepth 20000
attribute [local irreducible] WalkL Walk
theorem ruleRows_get {l : List Rule} {i : Nat} {x : Rule} (h : l[i]? = some x) : (ruleRows l)[i]? = some x.row := by simp [ruleRows, h]
structure RuledX where
  net : Net
  rules : List Rule
  path : Int
def RuledX.cells (x : RuledX) : List DV := [.i x.net.places, .sl (pathRows x.net.paths), .sl (ruleRows x.rules), .i x.path]
structure QueryX where
  hour : Int
  len : Int
  lim : Limits
def QueryX.cells (q : QueryX) : List DV := [.i q.hour, .i q.len, .i q.lim.wind, .i q.lim.rain, .i q.lim.temp.lo, .i q.lim.temp.hi]
structure WalkX where
  seen : List Sight
  ease : EaseX
  party : Party
  frm : Int
  start : Int
def WalkX.cells (k : WalkX) : List DV := [.sl (sightRows k.seen), .i k.ease.sight.hour, .i k.ease.sight.sky.wind, .i k.ease.sight.sky.rain, .i k.ease.sight.sky.temp, .i k.ease.wind, .i k.ease.rain, .i k.ease.temp, .i k.ease.less, .i k.party.grade, .i k.party.load, .i k.party.pace.lo, .i k.party.pace.hi, .i k.frm, .i k.start]
def farRules (x : RuledX) : Bool := farB x.net || decide ((x.rules.length : Int) > 14)
theorem f8 (x : RuledX) (hn : x.net.Small) : Fn Tryz.prog 8 [.agg x.cells] (.bool (farRules x)) := by
  have h36 := f36 x.net hn
  rw [Net.cells_eq] at h36
  unfold farRules
  cases q : farB x.net
  all_goals
    rw [q] at h36
    refine fn_walk 12 Tryz.call8 Tryz.func8 rfl (by decide) fun J => ?_
    simp (maxSteps := 4000000) only [go_sem, St.start, Tryz.ntmps8, Tryz.results8, RuledX.cells]
    repeat (first | refine walkL_true rfl ?_ | refine walkL_false rfl ?_ | refine walkL_seq ?_ | refine walkL_skip ?_ | refine walkL_block ?_ | (refine walkL_region fun K hK => ?_; simp (maxSteps := 4000000) only [go_sem]; (repeat (first | (refine ⟨_, .lent (hf := h36) (hd := rfl) (hr := rfl), ?_⟩; simp (maxSteps := 4000000) only [go_sem]) | (refine ⟨_, .given (hf := h36) (hd := rfl) (ha := rfl), ?_⟩; simp (maxSteps := 4000000) only [go_sem]))); refine hK _ ?_; clear hK K) | refine walkL_nil ?_ | refine walkL_ret ?_ | refine walkL_exit ?_ | refine blockA_here ?_ | refine blockA_other rfl ?_ | refine blockA_ret ?_ | refine blockA_normal ?_ | refine thenA_ret ?_ | refine thenA_exit ?_ | refine thenA_normal ?_)
    simp (maxSteps := 4000000) only [go_sem]
theorem f56 (n : Net) (rules : List Rule) (hn : n.Small) (hr : rules.length < 2 ^ 30) : Fn Tryz.prog 56 [.agg n.cells, .sl (ruleRows rules)] (.bool (!badRules n rules)) := by
  have hp := hn.paths
  refine fn_walk 41 Tryz.call56 Tryz.func56 rfl (by decide) fun J => ?_
  simp (maxSteps := 4000000) only [go_sem, St.start, Tryz.ntmps56, Tryz.results56, Net.cells_eq]
  repeat (first | refine walkL_seq ?_ | refine walkL_skip ?_ | refine walkL_block ?_ | (refine walkL_region fun K hK => ?_; simp (maxSteps := 4000000) only [go_sem]; refine hK _ ?_; clear hK K) | refine walkL_nil ?_ | refine walkL_ret ?_ | refine walkL_exit ?_ | refine blockA_here ?_ | refine blockA_other rfl ?_ | refine blockA_ret ?_ | refine blockA_normal ?_ | refine thenA_ret ?_ | refine thenA_exit ?_ | refine thenA_normal ?_)
  refine walkL_loopS (fun (i : Nat) => [(5, .d (.i i))]) (fun _ => []) (fun i => i ≤ rules.length ∧ (rules.take i).any (wrongR n.paths.length) = false) (fun i => rules.length - i) 0 ?_ ⟨Nat.zero_le _, by simp⟩ ?_
  · simp (maxSteps := 4000000) only [go_sem]
    refine weak_of [] ?_ ?_ rfl rfl <;> simp [lessT, lessM, lessB, AV.less]
  · intro i ⟨hi, hno⟩
    simp (maxSteps := 4000000) only [go_sem]
    repeat (first | refine walkL_seq ?_ | refine walkL_skip ?_ | refine walkL_block ?_ | (refine walkL_region fun K hK => ?_; simp (maxSteps := 4000000) only [go_sem, ruleRows_len]; refine hK _ ?_; clear hK K) | refine walkL_nil ?_ | refine walkL_ret ?_ | refine walkL_exit ?_ | refine blockA_here ?_ | refine blockA_other rfl ?_ | refine blockA_ret ?_ | refine blockA_normal ?_ | refine thenA_ret ?_ | refine thenA_exit ?_ | refine thenA_normal ?_)
    refine walkL_cond rfl (fun hb => ?_) (fun hb => ?_)
    · have hlt : i < rules.length := by simpa using hb
      have hw : IntKind.i64.wrap ((i : Int) + 1) = ((i + 1 : Nat) : Int) := by rw [wr_small (by omega)]; simp
      obtain ⟨x, hx⟩ : ∃ x, rules[i]? = some x := ⟨_, List.getElem?_eq_getElem hlt⟩
      have g1 := ruleRows_get hx
      rw [Rule.row] at g1
      have h43 := f43 n x.path (by omega)
      have h104 := f104 x.lim
      have h72 := f72 x.after 0 48
      rw [Net.cells_eq] at h43
      rw [Limits.row] at h104
      have hwr : wrongR n.paths.length x = (!withinB x.path 0 ((n.paths.length : Int) - 1) || (!limB x.lim || !withinB x.after 0 48)) := by
        unfold wrongR
        cases withinB x.path 0 ((n.paths.length : Int) - 1) <;> cases withinB x.after 0 48 <;> cases limB x.lim <;> rfl
      have hall : badRules n rules = true ∨ (badRules n rules = false → wrongR n.paths.length x = false) := by
        cases hbr : badRules n rules
        · right
          intro _
          unfold badRules at hbr
          rw [Bool.or_eq_false_iff] at hbr
          cases hw : wrongR n.paths.length x
          · rfl
          · have := List.any_eq_false.1 hbr.2 x (List.mem_of_getElem? hx)
            exact absurd hw this
        · exact .inl rfl
      obtain ⟨b1, e1⟩ : ∃ b, b = withinB x.path 0 ((n.paths.length : Int) - 1) := ⟨_, rfl⟩
      obtain ⟨b2, e2⟩ : ∃ b, b = withinB x.after 0 48 := ⟨_, rfl⟩
      obtain ⟨b3, e3⟩ : ∃ b, b = limB x.lim := ⟨_, rfl⟩
      rw [← e1] at h43
      rw [← e2] at h72
      rw [← e3] at h104
      rw [← e1, ← e2, ← e3] at hwr
      have hbad : wrongR n.paths.length x = true → badRules n rules = true := fun hw => by
        unfold badRules
        rw [List.any_eq_true.2 ⟨x, List.mem_of_getElem? hx, hw⟩, Bool.or_true]
      cases b1 <;> cases b2 <;> cases b3
      all_goals first
        | (have hbb := hbad (by rw [hwr]; rfl)
           rw [hbb]
           repeat (first | refine walkL_true rfl ?_ | refine walkL_false rfl ?_ | refine walkL_seq ?_ | refine walkL_skip ?_ | refine walkL_block ?_ | (refine walkL_region fun K hK => ?_; simp (maxSteps := 4000000) only [go_sem, g1, ruleRows_len]; (repeat (first | (refine ⟨_, .lent (hf := h43) (hd := rfl) (hr := rfl), ?_⟩; simp (maxSteps := 4000000) only [go_sem, g1, ruleRows_len]) | (refine ⟨_, .lent (hf := h104) (hd := rfl) (hr := rfl), ?_⟩; simp (maxSteps := 4000000) only [go_sem, g1, ruleRows_len]) | (refine ⟨_, .lent (hf := h72) (hd := rfl) (hr := rfl), ?_⟩; simp (maxSteps := 4000000) only [go_sem, g1, ruleRows_len]) | (refine ⟨_, .given (hf := h43) (hd := rfl) (ha := rfl), ?_⟩; simp (maxSteps := 4000000) only [go_sem, g1, ruleRows_len]) | (refine ⟨_, .given (hf := h104) (hd := rfl) (ha := rfl), ?_⟩; simp (maxSteps := 4000000) only [go_sem, g1, ruleRows_len]) | (refine ⟨_, .given (hf := h72) (hd := rfl) (ha := rfl), ?_⟩; simp (maxSteps := 4000000) only [go_sem, g1, ruleRows_len]))); refine hK _ ?_; clear hK K) | (refine walkL_drawn (by kernel_rfl) (by kernel_rfl) fun K hK => ?_; simp (maxSteps := 4000000) only [go_sem, g1, ruleRows_len]; (repeat (first | (refine ⟨_, .fn (hf := h43) (hd := rfl) (hr := .inl rfl), ?_⟩; simp (maxSteps := 4000000) only [go_sem, g1, ruleRows_len]) | (refine ⟨_, .fn (hf := h104) (hd := rfl) (hr := .inl rfl), ?_⟩; simp (maxSteps := 4000000) only [go_sem, g1, ruleRows_len]) | (refine ⟨_, .fn (hf := h72) (hd := rfl) (hr := .inl rfl), ?_⟩; simp (maxSteps := 4000000) only [go_sem, g1, ruleRows_len]))); refine ⟨by kernel_rfl, hK _ ?_⟩; clear hK K) | refine walkL_nil ?_ | refine walkL_ret ?_ | refine walkL_exit ?_ | refine blockA_here ?_ | refine blockA_other rfl ?_ | refine blockA_ret ?_ | refine blockA_normal ?_ | refine thenA_ret ?_ | refine thenA_exit ?_ | refine thenA_normal ?_)
           simp (maxSteps := 4000000) only [go_sem]
           done)
        | (have hw0 : wrongR n.paths.length x = false := by rw [hwr]; rfl
           repeat (first | refine walkL_true rfl ?_ | refine walkL_false rfl ?_ | refine walkL_seq ?_ | refine walkL_skip ?_ | refine walkL_block ?_ | (refine walkL_region fun K hK => ?_; simp (maxSteps := 4000000) only [go_sem, g1, hw]; (repeat (first | (refine ⟨_, .lent (hf := h43) (hd := rfl) (hr := rfl), ?_⟩; simp (maxSteps := 4000000) only [go_sem, g1, hw]) | (refine ⟨_, .lent (hf := h104) (hd := rfl) (hr := rfl), ?_⟩; simp (maxSteps := 4000000) only [go_sem, g1, hw]) | (refine ⟨_, .lent (hf := h72) (hd := rfl) (hr := rfl), ?_⟩; simp (maxSteps := 4000000) only [go_sem, g1, hw]) | (refine ⟨_, .given (hf := h43) (hd := rfl) (ha := rfl), ?_⟩; simp (maxSteps := 4000000) only [go_sem, g1, hw]) | (refine ⟨_, .given (hf := h104) (hd := rfl) (ha := rfl), ?_⟩; simp (maxSteps := 4000000) only [go_sem, g1, hw]) | (refine ⟨_, .given (hf := h72) (hd := rfl) (ha := rfl), ?_⟩; simp (maxSteps := 4000000) only [go_sem, g1, hw]))); refine hK _ ?_; clear hK K) | (refine walkL_drawn (by kernel_rfl) (by kernel_rfl) fun K hK => ?_; simp (maxSteps := 4000000) only [go_sem, g1, hw]; (repeat (first | (refine ⟨_, .fn (hf := h43) (hd := rfl) (hr := .inl rfl), ?_⟩; simp (maxSteps := 4000000) only [go_sem, g1, hw]) | (refine ⟨_, .fn (hf := h104) (hd := rfl) (hr := .inl rfl), ?_⟩; simp (maxSteps := 4000000) only [go_sem, g1, hw]) | (refine ⟨_, .fn (hf := h72) (hd := rfl) (hr := .inl rfl), ?_⟩; simp (maxSteps := 4000000) only [go_sem, g1, hw]))); refine ⟨by kernel_rfl, hK _ ?_⟩; clear hK K) | refine walkL_nil ?_ | refine walkL_ret ?_ | refine walkL_exit ?_ | refine blockA_here ?_ | refine blockA_other rfl ?_ | refine blockA_ret ?_ | refine blockA_normal ?_ | refine thenA_ret ?_ | refine thenA_exit ?_ | refine thenA_normal ?_)
           refine ⟨rfl, i + 1, ?_, ⟨hlt, any_take_succ hx hno hw0⟩, by omega⟩
           refine weak_of [] ?_ ?_ rfl rfl <;> simp [lessT, lessM, lessB, AV.less]
           done)
    · have he : i = rules.length := by (have : ¬ i < rules.length := by simpa using hb); omega
      subst he
      rw [List.take_length] at hno
      have e : badRules n rules = decide ((rules.length : Int) > 12) := by unfold badRules; rw [hno, Bool.or_false]
      rw [e]
      cases q : decide ((rules.length : Int) > 12)
      · have q' : decide ((rules.length : Int) ≤ 12) = true := by simp at q ⊢; omega
        repeat (first | refine walkL_true rfl ?_ | refine walkL_false rfl ?_ | refine walkL_seq ?_ | refine walkL_skip ?_ | refine walkL_block ?_ | (refine walkL_region fun K hK => ?_; simp (maxSteps := 4000000) only [go_sem, q', ruleRows_len]; refine hK _ ?_; clear hK K) | refine walkL_nil ?_ | refine walkL_ret ?_ | refine walkL_exit ?_ | refine blockA_here ?_ | refine blockA_other rfl ?_ | refine blockA_ret ?_ | refine blockA_normal ?_ | refine thenA_ret ?_ | refine thenA_exit ?_ | refine thenA_normal ?_)
        simp (maxSteps := 4000000) only [go_sem]
      · have q' : decide ((rules.length : Int) ≤ 12) = false := by simp at q ⊢; omega
        repeat (first | refine walkL_true rfl ?_ | refine walkL_false rfl ?_ | refine walkL_seq ?_ | refine walkL_skip ?_ | refine walkL_block ?_ | (refine walkL_region fun K hK => ?_; simp (maxSteps := 4000000) only [go_sem, q', ruleRows_len]; refine hK _ ?_; clear hK K) | refine walkL_nil ?_ | refine walkL_ret ?_ | refine walkL_exit ?_ | refine blockA_here ?_ | refine blockA_other rfl ?_ | refine blockA_ret ?_ | refine blockA_normal ?_ | refine thenA_ret ?_ | refine thenA_exit ?_ | refine thenA_normal ?_)
        simp (maxSteps := 4000000) only [go_sem]
end Go.Ab
namespace Go.Ab
open Go.RowKit
inductive Sh where
  | int (k : IntKind)
  | bool
  | sl (row : List Sh)
mutual
def Sh.fits (N : Nat) : Sh → DV → Prop
  | .int k, d => ∃ n, d = .int k n ∧ (Lit.int k n).wf = true
  | .bool, d => ∃ b, d = .bool b
  | .sl r, d => ∃ rows, d = .sl rows ∧ rows.length ≤ N ∧ ∀ row ∈ rows, Sh.fitsL N r row
def Sh.fitsL (N : Nat) : List Sh → List DV → Prop
  | [], ds => ds = []
  | s :: ss, ds => ∃ d r, ds = d :: r ∧ Sh.fits N s d ∧ Sh.fitsL N ss r
end
theorem Sh.fitsL_len {N : Nat} : ∀ {ss : List Sh} {ds : List DV}, Sh.fitsL N ss ds → ds.length = ss.length
  | [], _, h => by simp only [Sh.fitsL] at h; subst h; rfl
  | s :: ss, ds, h => by
    simp only [Sh.fitsL] at h
    obtain ⟨d, r, rfl, _, h⟩ := h
    simp [Sh.fitsL_len h]
theorem Sh.fitsL_append {N : Nat} : ∀ {ss ts : List Sh} {ds es : List DV}, Sh.fitsL N ss ds → Sh.fitsL N ts es → Sh.fitsL N (ss ++ ts) (ds ++ es)
  | [], _, _, _, h, k => by simp only [Sh.fitsL] at h; subst h; simpa using k
  | s :: ss, ts, ds, es, h, k => by
    simp only [Sh.fitsL] at h
    obtain ⟨d, r, rfl, hd, h⟩ := h
    simp only [List.cons_append, Sh.fitsL]
    exact ⟨d, r ++ es, rfl, hd, Sh.fitsL_append h k⟩
def shapesF (P : Program) (g : TypeId → Option (List Sh)) : List Field → Nat → Option (List Sh)
  | [], _ => some []
  | f :: fs, o => if f.offset = o then (g f.type).bind fun r => if P.cellsOf f.type = r.length then (shapesF P g fs (o + r.length)).map fun s => r ++ s else none else none
def shapes (P : Program) : Nat → TypeId → Option (List Sh)
  | 0, _ => none
  | n + 1, t => match P.underlying t with
    | some .bool => some [.bool]
    | some (.int k) => some [.int k]
    | some (.slice e) => (shapes P n e).bind fun r => if P.cellsOf e = r.length ∧ 0 < r.length then some [.sl r] else none
    | some (.struct fs) => (shapesF P (shapes P n) fs.toList 0).bind fun r => if P.cellsOf t = r.length then some r else none
    | _ => none
structure BulkOk {H : Type} (b : DataW H → Nat) : Prop where
  slice : ∀ elems spare, elems.length ≤ b (.slice elems spare)
  elem : ∀ elems spare, ∀ d ∈ elems, b d ≤ b (.slice elems spare)
  part : ∀ parts, ∀ d ∈ parts, b d ≤ b (.agg parts)
def Reads (w : World) (ds : List DV) (cs : List Value) : Prop :=
  ∀ (i : Nat) d v, ds[i]? = some d → cs[i]? = some v → v.oneCell' = true ∧ DRel w (fun _ => False) d v
section
variable {H : Type} {enc : TypeId × Value → H} {P : Program} {w : World} {sp : Nat → Bool} {held : Bool}
theorem readF {b : DataW H → Nat} {N : Nat} {g : TypeId → Option (List Sh)} {m : Nat} {cs : List Value}
    (hg : ∀ (t : TypeId) sh, g t = some sh → ∀ cs d ps, DataW.trod enc P w 0 sp held m t cs = some (d, ps) → b d ≤ N → cs.length = sh.length ∧ ∃ ds, Sh.fitsL N sh ds ∧ Reads w ds cs) :
    ∀ (fs : List Field) (xs : List (DataW H × List MemPlace)) (o : Nat) (sh : List Sh), shapesF P g fs o = some sh → xs.length = fs.length →
      (∀ (i : Nat) (f : Field), fs[i]? = some f → DataW.trod enc P w 0 sp held m f.type ((cs.drop f.offset).take (P.cellsOf f.type)) = xs[i]?) → (∀ x ∈ xs, b x.1 ≤ N) →
      ∃ ds, Sh.fitsL N sh ds ∧ Reads w ds (cs.drop o)
  | [], xs, o, sh, h, hl, _, _ => by
    simp only [shapesF, Option.some.injEq] at h
    subst h
    exact ⟨[], by simp [Sh.fitsL], fun i d v h => by simp at h⟩
  | f :: fs, xs, o, sh, h, hl, hx, hb => by
    simp only [shapesF] at h
    split at h
    case isFalse => cases h
    case isTrue ho =>
    obtain ⟨r, hr, h⟩ := Option.bind_eq_some_iff.1 h
    split at h
    case isFalse => cases h
    case isTrue hc =>
    obtain ⟨s, hs, rfl⟩ := Option.map_eq_some_iff.1 h
    cases xs with
    | nil => simp at hl
    | cons x xs =>
      have h0 := hx 0 f rfl
      rw [List.getElem?_cons_zero] at h0
      obtain ⟨hlen, ds, hf, hd⟩ := hg _ _ hr _ x.1 x.2 h0 (hb x (by simp))
      obtain ⟨es, he, hd'⟩ := readF hg fs xs (o + r.length) s hs (by simpa using hl) (fun i f' hf' => by simpa using hx (i + 1) f' (by simpa using hf')) (fun y hy => hb y (by simp [hy]))
      have hdl := Sh.fitsL_len hf
      refine ⟨ds ++ es, Sh.fitsL_append hf he, fun i d v h1 h2 => ?_⟩
      rw [List.getElem?_drop] at h2
      rcases Nat.lt_or_ge i ds.length with hi | hi
      · rw [List.getElem?_append_left hi] at h1
        refine hd i d v h1 ?_
        rw [List.getElem?_take, List.getElem?_drop, ho, if_pos (by omega), h2]
      · rw [List.getElem?_append_right hi] at h1
        refine hd' (i - ds.length) d v h1 ?_
        rw [List.getElem?_drop]
        rw [show o + r.length + (i - ds.length) = o + i from by omega, h2]
theorem cells_get {w : World} {a : Addr} {n : Nat} {cs : List Value} (h : w.cells? 0 a n = some cs) : cs.length = n ∧ ∀ j, j < n → w.cell? (a.add j) = cs[j]? := by
  simp only [World.cells?, Nat.zero_le, if_true] at h
  exact ⟨by simpa using mapM_some_length h, fun j hj => mapM_some_get h j j (by simp [hj])⟩
theorem cell_spot {w : World} {a : Addr} {v : Value} (h : w.cell? a = some v) : a.spot = none := by
  unfold World.cell? at h
  split at h
  · split at h
    · cases h
    · cases hs : a.spot <;> simp_all
  · cases h
theorem trod_read {b : DataW H → Nat} (hb : BulkOk b) (N : Nat) : ∀ (n : Nat) (t : TypeId) (sh : List Sh), shapes P n t = some sh → ∀ fuel cs d ps, DataW.trod enc P w 0 sp held fuel t cs = some (d, ps) → b d ≤ N →
    cs.length = sh.length ∧ ∃ ds, Sh.fitsL N sh ds ∧ Reads w ds cs
  | 0, _, _, h => by simp [shapes] at h
  | n + 1, t, sh, h => by
    intro fuel cs d ps hd hN
    unfold shapes at h
    split at h
    case h_1 ht =>
      cases h
      obtain ⟨v, rfl, _⟩ := DataW.trod_bool ht hd
      refine ⟨rfl, [.bool v], ?_, ?_⟩
      · simp [Sh.fitsL, Sh.fits]
      · intro i d' v' h1 h2
        cases i with
        | zero => simp only [List.getElem?_cons_zero, Option.some.injEq] at h1 h2; subst h1; subst h2; exact ⟨rfl, .bool _⟩
        | succ i => simp at h1
    case h_2 k ht =>
      cases h
      obtain ⟨v, rfl, _, hw⟩ := DataW.trod_int ht hd
      refine ⟨rfl, [.int k v], ?_, ?_⟩
      · simpa [Sh.fitsL, Sh.fits] using hw
      · intro i d' v' h1 h2
        cases i with
        | zero => simp only [List.getElem?_cons_zero, Option.some.injEq] at h1 h2; subst h1; subst h2; exact ⟨rfl, .int _ _⟩
        | succ i => simp at h1
    case h_3 e ht =>
      obtain ⟨r, hr, h⟩ := Option.bind_eq_some_iff.1 h
      split at h
      case isFalse => cases h
      case isTrue hc =>
      obtain ⟨hc, hp⟩ := hc
      cases h
      rcases DataW.trod_slice ht hd with ⟨rfl, _⟩ | ⟨a, len, cap, elems, rest, m, rfl, rfl, hx, _, hcap, _, hl, hel, _⟩
      · refine ⟨rfl, [.sl []], ?_, ?_⟩
        · simp [Sh.fitsL, Sh.fits]
        · intro i d' v' h1 h2
          cases i with
          | zero => simp only [List.getElem?_cons_zero, Option.some.injEq] at h1 h2; subst h1; subst h2; exact ⟨rfl, .slNil⟩
          | succ i => simp at h1
      · obtain rfl : d = .slice (elems.map (·.1)) (rest.map (·.1)) := congrArg Prod.fst hx
        have hrow : ∀ i : Nat, ∃ ds : List DV, i < len → Sh.fitsL N r ds ∧ ∀ j d, ds[j]? = some d → ∃ v, w.cell? (a.add (i * r.length) |>.add j) = some v ∧ v.oneCell' = true ∧ DRel w (fun _ => False) d v := by
          intro i
          by_cases hi : i < len
          · have h1 := hel i hi
            rw [List.getElem?_eq_getElem (by omega)] at h1
            obtain ⟨cs', hcs, htr⟩ := Option.bind_eq_some_iff.1 h1
            have hin : (elems[i]'(by omega)).1 ∈ elems.map (·.1) := List.mem_map.2 ⟨_, List.getElem_mem _, rfl⟩
            obtain ⟨hlen, ds, hf, hds⟩ := trod_read hb N n e r hr m cs' (elems[i]'(by omega)).1 (elems[i]'(by omega)).2 htr (Nat.le_trans (hb.elem _ _ _ hin) hN)
            refine ⟨ds, fun _ => ⟨hf, fun j d hj => ?_⟩⟩
            have hjl : j < ds.length := by
              rcases Nat.lt_or_ge j ds.length with h | h
              · exact h
              · rw [List.getElem?_eq_none h] at hj; cases hj
            rw [Sh.fitsL_len hf] at hjl
            have hcell := (cells_get hcs).2 j (by omega)
            rw [hc] at hcell
            have hv : cs'[j]? = some (cs'[j]'(by omega)) := List.getElem?_eq_getElem _
            rw [hv] at hcell
            exact ⟨_, hcell, hds j d _ hj hv⟩
          · exact ⟨[], fun h => absurd h hi⟩
        have hcho := Classical.axiomOfChoice hrow
        obtain ⟨F, hF⟩ := hcho
        have hrl : ((List.range len).map F).length = len := by simp
        refine ⟨rfl, [.sl ((List.range len).map F)], ?_, ?_⟩
        · simp only [Sh.fitsL, Sh.fits]
          refine ⟨_, _, rfl, ⟨_, rfl, ?_, ?_⟩, rfl⟩
          · rw [hrl]
            have := hb.slice (elems.map (·.1)) (rest.map (·.1))
            simp only [List.length_map] at this
            omega
          · intro row hrow
            obtain ⟨i, hi, rfl⟩ := List.mem_map.1 hrow
            exact (hF i (by simpa using hi)).1
        · intro i d' v' h1 h2
          cases i with
          | succ i => simp at h1
          | zero =>
            simp only [List.getElem?_cons_zero, Option.some.injEq] at h1 h2
            subst h1; subst h2
            refine ⟨rfl, ?_⟩
            cases hlen : len with
            | zero => exact .slEmpty _ _
            | succ l =>
              have hspot : a.spot = none := by
                have h0 := hF 0 (by omega)
                have hfl := Sh.fitsL_len h0.1
                obtain ⟨v, hv, _⟩ := h0.2 0 ((F 0)[0]'(by omega)) (List.getElem?_eq_getElem _)
                simp only [Nat.zero_mul, Addr.add, if_true] at hv
                exact cell_spot hv
              obtain ⟨blk, off, spot⟩ := a
              simp only at hspot
              subst hspot
              have hadd : ∀ i j, (Addr.add (Addr.add ⟨blk, off, none⟩ (i * r.length)) j) = ⟨blk, off + i * r.length + j, none⟩ := by
                intro i j
                unfold Addr.add
                by_cases h1 : i * r.length = 0 <;> by_cases h2 : j = 0 <;> simp [h1, h2]
              have hall : ∀ (i : Nat) (r' : List DV) (j : Nat) (d : DV), ((List.range len).map F)[i]? = some r' → r'[j]? = some d → ∃ v, w.cell? ⟨blk, off + i * r.length + j, none⟩ = some v ∧ v.oneCell' = true ∧ DRel w (fun _ => False) d v := by
                intro i r' j d h1 h2
                rw [List.getElem?_map] at h1
                obtain ⟨i', hi', rfl⟩ := Option.map_eq_some_iff.1 h1
                obtain ⟨hil, rfl⟩ := List.getElem?_eq_some_iff.1 hi'
                simp only [List.length_range] at hil
                simp only [List.getElem_range] at h2
                obtain ⟨v, hv, h3, h4⟩ := (hF i hil).2 j d h2
                rw [hadd] at hv
                exact ⟨v, hv, h3, h4⟩
              have hfin := DRel.sl (w := w) (own := fun _ => False) ((List.range len).map F) blk off r.length cap (fun i j => (w.cell? ⟨blk, off + i * r.length + j, none⟩).getD .nilFunc) (by rw [hrl]; exact hcap)
                (by
                  intro row hrow
                  obtain ⟨i, hi, rfl⟩ := List.mem_map.1 hrow
                  exact Sh.fitsL_len (hF i (by simpa using hi)).1)
                (by
                  intro i r' j d h1 h2
                  obtain ⟨v, hv, h3, _⟩ := hall i r' j d h1 h2
                  rw [hv]
                  exact ⟨fun h => h, rfl, h3⟩)
                (by
                  intro i r' j d h1 h2
                  obtain ⟨v, hv, _, h4⟩ := hall i r' j d h1 h2
                  simp only [hv, Option.getD_some]
                  exact h4)
              rw [hrl] at hfin
              rw [hlen] at hfin
              exact hfin
    case h_4 fs ht =>
      obtain ⟨r, hr, h⟩ := Option.bind_eq_some_iff.1 h
      split at h
      case isFalse => cases h
      case isTrue hc =>
      cases h
      obtain ⟨xs, m, rfl, hx, hl, hxl, hi⟩ := DataW.trod_struct ht hd
      obtain rfl : d = .agg (xs.map (·.1)) := congrArg Prod.fst hx
      obtain ⟨ds, hf, hds⟩ := readF (fun t sh h cs d ps hd hN => trod_read hb N n t sh h m cs d ps hd hN) fs.toList xs 0 sh hr (by simpa using hxl) (fun i f hf => hi i f (by simpa using hf))
        (fun x hx => Nat.le_trans (hb.part _ _ (List.mem_map.2 ⟨x, hx, rfl⟩)) hN)
      exact ⟨by omega, ds, hf, by simpa using hds⟩
    case h_5 => cases h
end
end Go.Ab
/- The link from a walked contract to a statement's contract, for arguments of any number and of the types that the statements take; where what is read is of bulk at most the bound. -/
namespace Go.Ab
open Go.RowKit Go.Proofs Go.ChangeShapes Go.WideShapes Go.Proofs.YtlcbalngfpgjdaaGreatDoor
set_option linter.unusedVariables false
set_option maxRecDepth 100000
section
variable {H : Type} {enc : TypeId × Value → H} {P : Program}
theorem post_of_below {f : Func} {s : ChangeSpec} {apart fresh handsOn again : Bool} {W W' : World} {args : Array Value} {v : Value} {ds gs : List (DataW H)} {before pa pv : List MemPlace}
    (hW : DataW.Whole enc P f.params.toList s.vars apart W args.toList ds gs before)
    (hres : ∀ (b : Nat) (sp : Nat → Bool) (hd : Bool), DataW.TrodAll enc P W' b sp hd f.resultTypes.toList (v.resultList f.resultTypes.size) (s.fn H (ds ++ gs)).results [])
    (hargs : ∀ sp : Nat → Bool, (∀ p ∈ before, sp p.block = true) → DataW.TrodAll enc P W' 0 sp true f.params.toList args.toList (s.fn H (ds ++ gs)).args pa)
    (hvars : ∀ sp : Nat → Bool, (∀ p ∈ before, sp p.block = true) → DataW.TrodVars enc P W' sp s.vars (s.fn H (ds ++ gs)).vars pv)
    (hps : before = pa ++ pv) (hb : Below W.heap.size W W')
    (hok : ∀ (j : Nat) (t : TypeId) (r : Value), f.resultTypes[j]? = some t → (v.resultList f.resultTypes.size)[j]? = some r → Value.okWide P W' .any 0 t r) :
    s.post enc P f apart fresh handsOn again W args v W' := by
  have hlt := hW.lt
  have hold : ∀ p ∈ before, (fun b => decide (b < W.heap.size)) p.block = true := fun p hp => by simpa using hlt p hp
  refine ⟨ds, gs, before, [], pa, pv, hW, hres _ _ _, hargs _ hold, hvars _ hold, World.keptBut_mono (fun p hp => ⟨hp, ?_⟩) (hb.frame (· ∈ before)), fun _ => ?_⟩
  · rw [hps, List.mem_append] at hp
    exact Or.inr hp
  · obtain ⟨_, _, _, _, _, hz, hn⟩ := hW
    refine ⟨hok, _, _, ([] ++ pa) ++ pv, ⟨[] ++ pa, pv, trodAll_append (hargs _ (fun _ _ => rfl)) (hres _ _ _), hvars _ (fun _ _ => rfl), rfl, ?_, ?_⟩, ?_⟩
    · intro b off hp
      have hp' : MemPlace.cell b off ∈ before := by rw [hps]; simpa using hp
      rw [hb.frozen (p := ⟨b, off, none⟩) (hlt _ hp')]
      exact hz b off hp'
    · intro ha
      have := hn ha
      rw [hps] at this
      simpa using this
    · intro p hp _
      rw [hps]
      simpa using hp
end
theorem rows_of {α : Type} {row : α → List DV} {Q : α → Prop} : ∀ {rows : List (List DV)}, (∀ r ∈ rows, ∃ a, r = row a ∧ Q a) → ∃ l : List α, rows = l.map row ∧ ∀ a ∈ l, Q a
  | [], _ => ⟨[], rfl, fun _ h => by cases h⟩
  | r :: rs, h => by
    obtain ⟨a, rfl, ha⟩ := h r (by simp)
    obtain ⟨l, rfl, hl⟩ := rows_of (rows := rs) (fun r hr => h r (by simp [hr]))
    exact ⟨a :: l, rfl, fun b hb => by rcases List.mem_cons.1 hb with rfl | hb; exact ha; exact hl b hb⟩
def iS : Sh := .int .i64
def hourS : List Sh := [iS, iS, iS, iS, iS, iS]
def skyS : List Sh := [iS, iS, iS]
def sightS : List Sh := [iS, iS, iS, iS]
def foreS : List Sh := [.sl [.sl hourS]]
def limS : List Sh := [iS, iS, iS, iS]
def realS : List Sh := [.sl sightS, .sl skyS, iS, iS, iS, iS, iS]
def easeS : List Sh := [iS, iS, iS, iS, iS, iS, iS, iS]
theorem hour_of {N : Nat} {r : List DV} (h : Sh.fitsL N hourS r) : ∃ s : Hour, r = s.row ∧ True := by
  simp only [hourS, iS, Sh.fitsL, Sh.fits] at h
  obtain ⟨_, _, rfl, ⟨a, rfl, _⟩, _, _, rfl, ⟨b, rfl, _⟩, _, _, rfl, ⟨c, rfl, _⟩, _, _, rfl, ⟨d, rfl, _⟩, _, _, rfl, ⟨e, rfl, _⟩, _, _, rfl, ⟨f, rfl, _⟩, rfl⟩ := h
  exact ⟨⟨⟨a, b⟩, ⟨c, d⟩, ⟨e, f⟩⟩, rfl, trivial⟩
theorem sight_of {N : Nat} {r : List DV} (h : Sh.fitsL N sightS r) : ∃ s : Sight, r = s.row ∧ True := by
  simp only [sightS, iS, Sh.fitsL, Sh.fits] at h
  obtain ⟨_, _, rfl, ⟨d, rfl, _⟩, _, _, rfl, ⟨a, rfl, _⟩, _, _, rfl, ⟨b, rfl, _⟩, _, _, rfl, ⟨c, rfl, _⟩, rfl⟩ := h
  exact ⟨⟨d, ⟨a, b, c⟩⟩, rfl, trivial⟩
theorem sights_of {N : Nat} {d : DV} (h : Sh.fits N (.sl sightS) d) : ∃ l : List Sight, d = .sl (sightRows l) ∧ l.length ≤ N := by
  simp only [Sh.fits] at h
  obtain ⟨rows, rfl, hl, hr⟩ := h
  obtain ⟨l, rfl, _⟩ := rows_of (fun r h => sight_of (hr r h))
  exact ⟨l, rfl, by simpa using hl⟩
theorem hours_of {N : Nat} {r : List DV} (h : Sh.fitsL N [.sl hourS] r) : ∃ l : List Hour, r = [.sl (hourRows l)] ∧ l.length ≤ N := by
  simp only [Sh.fitsL] at h
  obtain ⟨d, _, rfl, h, rfl⟩ := h
  simp only [Sh.fits] at h
  obtain ⟨rows, rfl, hl, hr⟩ := h
  obtain ⟨l, rfl, _⟩ := rows_of (fun r h => hour_of (hr r h))
  exact ⟨l, rfl, by simpa using hl⟩
theorem scens_of {N : Nat} {d : DV} (h : Sh.fits N (.sl [.sl hourS]) d) : ∃ F : List (List Hour), d = .sl (scenRows F) ∧ F.length ≤ N ∧ ∀ l ∈ F, l.length ≤ N := by
  simp only [Sh.fits] at h
  obtain ⟨rows, rfl, hl, hr⟩ := h
  obtain ⟨F, rfl, hF⟩ := rows_of (row := fun l : List Hour => [DV.sl (hourRows l)]) (fun r h => hours_of (hr r h))
  exact ⟨F, rfl, by simpa using hl, hF⟩
def spanS : List Sh := [iS, iS]
def ruleS : List Sh := [iS, iS, iS, iS, iS, iS]
def pathS : List Sh := [iS, iS, iS, iS, iS, iS, iS, .sl spanS]
def ruledS : List Sh := [iS, .sl pathS, .sl ruleS, iS]
def queryS : List Sh := [iS, iS, iS, iS, iS, iS]
def walkS : List Sh := [.sl sightS, iS, iS, iS, iS, iS, iS, iS, iS, iS, iS, iS, iS, iS, iS]
theorem span_of {N : Nat} {r : List DV} (h : Sh.fitsL N spanS r) : ∃ s : Span, r = s.row ∧ True := by
  simp only [spanS, iS, Sh.fitsL, Sh.fits] at h
  obtain ⟨_, _, rfl, ⟨a, rfl, _⟩, _, _, rfl, ⟨b, rfl, _⟩, rfl⟩ := h
  exact ⟨⟨a, b⟩, rfl, trivial⟩
theorem spans_of {N : Nat} {d : DV} (h : Sh.fits N (.sl spanS) d) : ∃ l : List Span, d = .sl (spanRows l) ∧ l.length ≤ N := by
  simp only [Sh.fits] at h
  obtain ⟨rows, rfl, hl, hr⟩ := h
  obtain ⟨l, rfl, _⟩ := rows_of (fun r h => span_of (hr r h))
  exact ⟨l, rfl, by simpa using hl⟩
theorem rule_of {N : Nat} {r : List DV} (h : Sh.fitsL N ruleS r) : ∃ s : Rule, r = s.row ∧ True := by
  simp only [ruleS, iS, Sh.fitsL, Sh.fits] at h
  obtain ⟨_, _, rfl, ⟨a, rfl, _⟩, _, _, rfl, ⟨b, rfl, _⟩, _, _, rfl, ⟨c, rfl, _⟩, _, _, rfl, ⟨d, rfl, _⟩, _, _, rfl, ⟨e, rfl, _⟩, _, _, rfl, ⟨f, rfl, _⟩, rfl⟩ := h
  exact ⟨⟨a, b, ⟨c, d, ⟨e, f⟩⟩⟩, rfl, trivial⟩
theorem rules_of {N : Nat} {d : DV} (h : Sh.fits N (.sl ruleS) d) : ∃ l : List Rule, d = .sl (ruleRows l) ∧ l.length ≤ N := by
  simp only [Sh.fits] at h
  obtain ⟨rows, rfl, hl, hr⟩ := h
  obtain ⟨l, rfl, _⟩ := rows_of (fun r h => rule_of (hr r h))
  exact ⟨l, rfl, by simpa using hl⟩
theorem path_of {N : Nat} {r : List DV} (h : Sh.fitsL N pathS r) : ∃ p : Path, r = p.row ∧ p.opens.length ≤ N := by
  simp only [pathS, iS] at h
  simp only [Sh.fitsL] at h
  obtain ⟨_, _, rfl, h0, _, _, rfl, h1, _, _, rfl, h2, _, _, rfl, h3, _, _, rfl, h4, _, _, rfl, h5, _, _, rfl, h6, x, _, rfl, h7, rfl⟩ := h
  obtain ⟨o, rfl, ho⟩ := spans_of h7
  simp only [Sh.fits] at h0 h1 h2 h3 h4 h5 h6
  obtain ⟨a, rfl, _⟩ := h0
  obtain ⟨b, rfl, _⟩ := h1
  obtain ⟨c, rfl, _⟩ := h2
  obtain ⟨d, rfl, _⟩ := h3
  obtain ⟨e, rfl, _⟩ := h4
  obtain ⟨f, rfl, _⟩ := h5
  obtain ⟨g, rfl, _⟩ := h6
  exact ⟨⟨a, b, c, ⟨d, e⟩, ⟨f, g⟩, o⟩, rfl, ho⟩
theorem paths_of {N : Nat} {d : DV} (h : Sh.fits N (.sl pathS) d) : ∃ l : List Path, d = .sl (pathRows l) ∧ l.length ≤ N ∧ ∀ p ∈ l, p.opens.length ≤ N := by
  simp only [Sh.fits] at h
  obtain ⟨rows, rfl, hl, hr⟩ := h
  obtain ⟨l, rfl, hq⟩ := rows_of (row := Path.row) (fun r h => path_of (hr r h))
  exact ⟨l, rfl, by simpa using hl, hq⟩
theorem ruled_of {N : Nat} (hN : N < 2 ^ 30) {r : List DV} (h : Sh.fitsL N ruledS r) : ∃ u : RuledX, r = u.cells ∧ u.net.Small ∧ u.rules.length < 2 ^ 30 := by
  simp only [ruledS, iS] at h
  simp only [Sh.fitsL] at h
  obtain ⟨_, _, rfl, h0, _, _, rfl, h1, _, _, rfl, h2, _, _, rfl, h3, rfl⟩ := h
  obtain ⟨P, rfl, p1, p2⟩ := paths_of h1
  obtain ⟨R, rfl, r1⟩ := rules_of h2
  simp only [Sh.fits] at h0 h3
  obtain ⟨a, rfl, _⟩ := h0
  obtain ⟨b, rfl, _⟩ := h3
  exact ⟨⟨⟨a, P⟩, R, b⟩, rfl, ⟨by show P.length < _; omega, fun x hx => by have := p2 x hx; omega⟩, by show R.length < _; omega⟩
theorem ruledSh : shapes Tryz.prog 20 31 = some ruledS := by kernel_rfl
theorem fore_of {N : Nat} (hN : N < 2 ^ 30) {r : List DV} (h : Sh.fitsL N foreS r) : ∃ F : List (List Hour), r = [.sl (scenRows F)] ∧ ForeSmall F := by
  unfold foreS at h
  rw [Sh.fitsL] at h
  obtain ⟨x0, _, rfl, h0, h⟩ := h
  rw [Sh.fitsL] at h
  subst h
  obtain ⟨F, rfl, f1, f2⟩ := scens_of h0
  exact ⟨F, rfl, ⟨by omega, fun l hl => by have := f2 l hl; omega⟩⟩
theorem foreSh : shapes Tryz.prog 20 24 = some foreS := by kernel_rfl
theorem sightsSh : shapes Tryz.prog 20 25 = some [.sl sightS] := by kernel_rfl
theorem bulk_mem {H : Type} : ∀ {l : List (DataW H)} {d : DataW H}, d ∈ l → Rows.uptoBulk d ≤ Rows.uptoBulkAll l
  | x :: r, d, h => by
    simp only [Rows.uptoBulkAll]
    rcases List.mem_cons.1 h with rfl | h
    · omega
    · have := bulk_mem h
      omega
theorem bulk_pos {H : Type} (d : DataW H) : 1 ≤ Rows.uptoBulk d := by
  cases d with
  | lit l => cases l <;> simp [Rows.uptoBulk]
  | _ => simp [Rows.uptoBulk]
theorem bulk_len {H : Type} : ∀ (l : List (DataW H)), l.length ≤ Rows.uptoBulkAll l
  | [] => by simp
  | x :: r => by
    have h1 := bulk_pos x
    have h2 := bulk_len r
    simp only [Rows.uptoBulkAll, List.length_cons]
    omega
theorem bulkOk {H : Type} : BulkOk (Rows.uptoBulk (H := H)) where
  slice := fun elems spare => by
    have := bulk_len elems
    simp only [Rows.uptoBulk]
    omega
  elem := fun elems spare d hd => by
    have := bulk_mem hd
    simp only [Rows.uptoBulk]
    omega
  part := fun parts d hd => by
    have := bulk_mem hd
    simp only [Rows.uptoBulk]
    omega
structure Rd (t : TypeId) (C : DV → Prop) : Prop where
  rec' : Tryz.prog.readableRec t = true
  lt : t < Tryz.prog.types.size
  read : ∀ (H : Type) (enc : TypeId × Value → H) (w : World) (base : Nat) (v : Value) (d : DataW H) (ps : List MemPlace), Value.okWide Tryz.prog w .any base t v → DataW.Trod enc Tryz.prog w 0 (fun _ => true) true t v d ps → Rows.uptoBulk d ≤ 1048576 → ∃ x, C x ∧ DRel w (fun _ => False) x v
theorem one_read {H : Type} {enc : TypeId × Value → H} {w : World} {t : TypeId} {s : Sh} (hs : shapes Tryz.prog 20 t = some [s]) {v : Value} {d : DataW H} {ps : List MemPlace}
    (hv : v.cells.toList = [v]) (h : DataW.Trod enc Tryz.prog w 0 (fun _ => true) true t v d ps) (hd : Rows.uptoBulk d ≤ 1048576) :
    ∃ x, Sh.fits 1048576 s x ∧ DRel w (fun _ => False) x v := by
  obtain ⟨fuel, h⟩ := h
  obtain ⟨hl, ds, hf, hr⟩ := trod_read bulkOk 1048576 20 t _ hs fuel _ _ _ h hd
  simp only [Sh.fitsL] at hf
  obtain ⟨x, _, rfl, hx, rfl⟩ := hf
  exact ⟨x, hx, (hr 0 x v rfl (by rw [hv]; rfl)).2⟩
theorem agg_read1 {H : Type} {enc : TypeId × Value → H} {w : World} {t : TypeId} {sh : List Sh} {fs : Array Field} {base : Nat} (ht : Tryz.prog.underlying t = some (.struct fs)) (hs : shapes Tryz.prog 20 t = some sh) {v : Value} {d : DataW H} {ps : List MemPlace}
    (hok : Value.okWide Tryz.prog w .any base t v) (h : DataW.Trod enc Tryz.prog w 0 (fun _ => true) true t v d ps) (hd : Rows.uptoBulk d ≤ 1048576) :
    ∃ ds, Sh.fitsL 1048576 sh ds ∧ DRel w (fun _ => False) (.agg ds) v := by
  obtain ⟨cs, rfl, hsz⟩ := okWide_struct ht hok
  obtain ⟨fuel, h⟩ := h
  obtain ⟨hl, ds, hf, hr⟩ := trod_read bulkOk 1048576 20 t sh hs fuel _ _ _ h hd
  have hdl := Sh.fitsL_len hf
  refine ⟨ds, hf, ?_⟩
  simp only [Value.cells] at hl hr
  exact .agg _ _ (by simpa [hdl] using hl.symm) fun i d v h1 h2 => (hr i d v h1 (by simpa using h2)).2
theorem rdFore : Rd 24 (fun x => ∃ F : List (List Hour), x = .agg [.sl (scenRows F)] ∧ ForeSmall F) :=
  ⟨by kernel_rfl, of_decide_eq_true (by kernel_rfl), fun H enc w base v d ps hok h hd => by
    obtain ⟨ds, hf, hr⟩ := agg_read1 Tryz.underlying24 foreSh hok h hd
    obtain ⟨F, rfl, hF⟩ := fore_of (by decide) hf
    exact ⟨_, ⟨F, rfl, hF⟩, hr⟩⟩
theorem rdSights : Rd 25 (fun x => ∃ l : List Sight, x = .sl (sightRows l) ∧ l.length < 2 ^ 30) :=
  ⟨by kernel_rfl, of_decide_eq_true (by kernel_rfl), fun H enc w base v d ps hok h hd => by
    obtain ⟨a, len, cap, rfl⟩ := okWide_slice Tryz.underlying25 hok
    obtain ⟨x, hx, hr⟩ := one_read sightsSh rfl h hd
    obtain ⟨l, rfl, hl⟩ := sights_of hx
    exact ⟨_, ⟨l, rfl, by omega⟩, hr⟩⟩
theorem rdRuled : Rd 31 (fun x => ∃ u : RuledX, x = .agg u.cells ∧ u.net.Small ∧ u.rules.length < 2 ^ 30) :=
  ⟨by kernel_rfl, of_decide_eq_true (by kernel_rfl), fun H enc w base v d ps hok h hd => by
    obtain ⟨ds, hf, hr⟩ := agg_read1 Tryz.underlying31 ruledSh hok h hd
    obtain ⟨r, rfl, hr'⟩ := ruled_of (by decide) hf
    exact ⟨_, ⟨r, rfl, hr'⟩, hr⟩⟩
abbrev aX : TypeId × (DV → Prop) := (31, fun x => ∃ u : RuledX, x = .agg u.cells ∧ u.net.Small ∧ u.rules.length < 2 ^ 30)
abbrev aQ : TypeId × (DV → Prop) := (61, fun x => ∃ q : QueryX, x = .agg q.cells)
abbrev aK : TypeId × (DV → Prop) := (77, fun x => ∃ k : WalkX, x = .agg k.cells ∧ k.seen.length < 2 ^ 30)
def wideLaid : List (String × DataW Unit) := [("bivouac/weather.wide", .agg [.agg [.lit (.int .i64 200), .lit (.int .i64 100), .agg [.lit (.int .i64 (-50)), .lit (.int .i64 50)]]])]
theorem gWide : Tryz.prog.globalNamed "bivouac/weather.wide" = some 0 := by kernel_rfl
theorem tWide : (Tryz.prog.globals[0]?).map (·.type) = some 124 := by kernel_rfl
theorem hid_of {W : World} (h : laidMetH Tryz.prog wideLaid W) : Hid Tryz.prog W (fun _ => False) := by
  intro _
  rw [MakeChecks.laidMetH_plain _ _ _ (by kernel_rfl)] at h
  obtain ⟨ps, ⟨g0, t0, cs0, f0, p0, q0, hg0, ht0, hv0, hd0, _, _⟩, _, _⟩ := h
  obtain rfl := Option.some.inj (gWide.symm.trans hg0)
  obtain rfl := Option.some.inj (tWide.symm.trans ht0)
  have c106 : Tryz.prog.cellsOf 124 = 4 := by kernel_rfl
  have c30 : Tryz.prog.cellsOf 50 = 4 := by kernel_rfl
  have c28 : Tryz.prog.cellsOf 48 = 2 := by kernel_rfl
  have c3 : Tryz.prog.cellsOf 3 = 1 := by kernel_rfl
  obtain ⟨y0, n0, e0, hl, h1⟩ := Go.ChangeShapes.trod_struct1 Tryz.underlying124 hd0
  obtain ⟨a0, a1, a2, n1, e1, _, k0, k1, k2⟩ := Deep.trod_struct3 Tryz.underlying50 h1
  obtain ⟨b0, b1, n2, e2, _, k3, k4⟩ := Go.ChangeShapes.trod_struct2 Tryz.underlying48 k2
  obtain ⟨i0, q0', r0, _⟩ := DataW.trod_int Tryz.underlying3 k0
  obtain ⟨i1, q1', r1, _⟩ := DataW.trod_int Tryz.underlying3 k1
  obtain ⟨i2, q2', r2, _⟩ := DataW.trod_int Tryz.underlying3 k3
  obtain ⟨i3, q3', r3, _⟩ := DataW.trod_int Tryz.underlying3 k4
  simp only [c106, c30, c28, c3] at hl q0' q1' q2' q3'
  subst r0 r1 r2 r3
  subst e2
  subst e1
  simp only [Prod.mk.injEq, DataW.agg.injEq, List.cons.injEq, and_true, DataW.lit.injEq, Lit.int.injEq, true_and] at e0
  obtain ⟨l0⟩ := cs0
  match l0, hl with
  | [v0, v1, v2, v3], _ =>
    simp at q0' q1' q2' q3'
    subst q0' q1' q2' q3'
    have hc := fun i => World.var?_cell hg0 hv0 i
    obtain ⟨rfl, rfl, rfl, rfl⟩ := e0.1
    refine .ptr [.i 200, .i 100, .i (-50), .i 50] 0 0 0 (fun j => if j = 0 then .int .i64 200 else if j = 1 then .int .i64 100 else if j = 2 then .int .i64 (-50) else .int .i64 50) (fun j d hj => ⟨id, ?_, ?_⟩) (fun j d hj => ?_)
    · have := hc j
      match j, hj with
      | 0, _ => simpa using this
      | 1, _ => simpa using this
      | 2, _ => simpa using this
      | 3, _ => simpa using this
    · match j, hj with
      | 0, _ => rfl
      | 1, _ => rfl
      | 2, _ => rfl
      | 3, _ => rfl
    · match j, hj with
      | 0, hj => cases hj; exact .int ..
      | 1, hj => cases hj; exact .int ..
      | 2, hj => cases hj; exact .int ..
      | 3, hj => cases hj; exact .int ..
def AllC : List (TypeId × (DV → Prop)) → List DV → Prop
  | [], [] => True
  | c :: cs, x :: xs => c.2 x ∧ AllC cs xs
  | _, _ => False
section
variable {H : Type} {enc : TypeId × Value → H} {W : World}
theorem read_all {base : Nat} : ∀ (L : List (TypeId × (DV → Prop))), (∀ c ∈ L, Rd c.1 c.2) → ∀ (vs : List Value) (ds : List (DataW H)) (ps : List MemPlace),
    (∀ (j : Nat) t v, (L.map (·.1))[j]? = some t → vs[j]? = some v → Value.okWide Tryz.prog W .any base t v) →
    DataW.TrodAll enc Tryz.prog W 0 (fun _ => true) true (L.map (·.1)) vs ds ps → Rows.uptoBulkAll ds ≤ 1048576 →
    vs.length = L.length ∧ ds.length = L.length ∧ ∃ xs, AllC L xs ∧ xs.length = L.length ∧ ∀ (i : Nat) x v, xs[i]? = some x → vs[i]? = some v → DRel W (fun _ => False) x v
  | [], _, vs, ds, ps, _, h, _ => by
    obtain ⟨rfl, rfl, rfl⟩ := trodAll_nil h
    exact ⟨rfl, rfl, [], trivial, rfl, fun i x v h => by simp at h⟩
  | c :: L, hc, vs, ds, ps, hval, h, hb => by
    obtain ⟨v, vs', d, ds', p, q, rfl, rfl, rfl, hd, hrest⟩ := trodAll_cons h
    simp only [Rows.uptoBulkAll] at hb
    obtain ⟨x, hx, hr⟩ := (hc c (by simp)).read H enc W base v d p (hval 0 _ v (by simp) (by simp)) hd (by omega)
    obtain ⟨h1, h2, xs, h3, h4, h5⟩ := read_all L (fun c h => hc c (by simp [h])) vs' ds' q (fun j t v h1 h2 => hval (j + 1) t v (by simpa using h1) (by simpa using h2)) hrest (by omega)
    refine ⟨by simp [h1], by simp [h2], x :: xs, ⟨hx, h3⟩, by simp [h4], fun i y w hy hw => ?_⟩
    cases i with
    | zero =>
      simp at hy hw
      subst hy
      subst hw
      exact hr
    | succ i => exact h5 i y w (by simpa using hy) (by simpa using hw)
theorem stay_all {W' : World} {sp : Nat → Bool} : ∀ (L : List (TypeId × (DV → Prop))), (∀ c ∈ L, Rd c.1 c.2) → ∀ (vs : List Value) (ds : List (DataW H)) (ps : List MemPlace),
    DataW.TrodAll enc Tryz.prog W 0 (fun _ => true) true (L.map (·.1)) vs ds ps → (∀ y ∈ ps, y.block < W.heap.size) → Below W.heap.size W W' → (∀ y ∈ ps, sp y.block = true) →
    DataW.TrodAll enc Tryz.prog W' 0 sp true (L.map (·.1)) vs ds ps
  | [], _, vs, ds, ps, h, _, _, _ => by
    obtain ⟨rfl, rfl, rfl⟩ := trodAll_nil h
    exact trodAll_mk0
  | c :: L, hc, vs, ds, ps, h, hlt, hb, hsp => by
    obtain ⟨v, vs', d, ds', p, q, rfl, rfl, rfl, hd, hrest⟩ := trodAll_cons h
    have hrd := hc c (by simp)
    exact ⟨p, q, WideElems.Trod_stays (by kernel_rfl) hrd.rec' hrd.lt hd (fun y hy => hb.same (hlt y (by simp [hy]))) (fun y hy => hsp y (by simp [hy])),
      stay_all L (fun c h => hc c (by simp [h])) vs' ds' q hrest (fun y hy => hlt y (by simp [hy])) hb (fun y hy => hsp y (by simp [hy])), rfl⟩
end
theorem link {f : FuncId} {fn : Func} (L : List (TypeId × (DV → Prop))) (hL : ∀ c ∈ L, Rd c.1 c.2) (hf : ∀ xs, AllC L xs → Fn Tryz.prog f xs (.bool true)) (hfn : fn.params = (L.map (·.1)).toArray) (hr : fn.resultTypes = #[4])
    (s : ChangeSpec) (hv : s.vars = []) (hs : ∀ (H : Type) (ds : List (DataW H)), ds.length = L.length → s.fn H ds = { results := [.lit (.bool true)], args := ds })
    {H : Type} {enc : TypeId × Value → H} {W : World} {args : Array Value} {ds gs : List (DataW H)} {before : List MemPlace}
    {base : Nat} (hval : ∀ (j : Nat) t v, fn.params[j]? = some t → args[j]? = some v → Value.okWide Tryz.prog W .any base t v)
    (hW : DataW.Whole enc Tryz.prog fn.params.toList s.vars false W args.toList ds gs before) (hk : Rows.uptoSmall H (ds ++ gs) = true) (hX : laidMetH Tryz.prog wideLaid W) :
    Calls Tryz.prog f args W fun e W' => ∃ v, e = .returned v ∧ s.post enc Tryz.prog fn false true false false W args v W' := by
  have hW' := hW
  obtain ⟨p, q, hA, hV, rfl, hfz, hnd⟩ := hW
  rw [hfn] at hA
  rw [hv] at hV
  obtain ⟨rfl, rfl⟩ := trodVars_none hV
  have hb := of_decide_eq_true hk
  simp only [List.append_nil] at hb
  obtain ⟨l1, l2, xs, hxs, l3, hrel⟩ := read_all (base := base) L hL _ _ _ (fun j t v h1 h2 => hval j t v (by rw [hfn]; simpa using h1) (by simpa using h2)) hA hb
  have hc := (hf xs hxs).2 W (fun _ => False) args (fun _ h => h.elim) (hid_of hX) ⟨by rw [l3, ← l1]; simp, fun i x v h1 h2 => hrel i x v h1 (by simpa using h2)⟩
  refine hc.mono fun e W' h => ?_
  obtain ⟨v, rfl, hvr, hbel⟩ := h
  cases hvr
  refine ⟨_, rfl, ?_⟩
  have hlt : ∀ y ∈ p, y.block < W.heap.size := fun y hy => hW'.lt y (by simpa using hy)
  have hok : Value.okWide Tryz.prog W' .any 0 4 (.bool true) := okWide_bool_mk (t := 4) Tryz.underlying4 true
  have hsf : s.fn H (ds ++ []) = { results := [.lit (.bool true)], args := ds } := by rw [List.append_nil]; exact hs H ds l2
  refine post_of_below (pa := p) (pv := []) hW' ?_ ?_ ?_ (by simp) hbel ?_
  · intro b sp hd
    rw [hr, hsf]
    exact trodAll_mk1 (shut_bool Tryz.underlying4 _)
  · intro sp hsp
    rw [hfn, hsf]
    exact stay_all L hL _ _ _ hA hlt hbel (fun y hy => hsp y (by simpa using hy))
  · intro sp hsp
    rw [hv, hsf]
    rfl
  · exact ok_one hr rfl hok
abbrev aF : TypeId × (DV → Prop) := (24, fun x => ∃ F : List (List Hour), x = .agg [.sl (scenRows F)] ∧ ForeSmall F)
abbrev aS : TypeId × (DV → Prop) := (25, fun x => ∃ l : List Sight, x = .sl (sightRows l) ∧ l.length < 2 ^ 30)
abbrev aR : TypeId × (DV → Prop) := (52, fun x => ∃ r : RealX, x = .agg r.cells ∧ r.seen.length < 2 ^ 30 ∧ r.skies.length < 2 ^ 30)
abbrev aE : TypeId × (DV → Prop) := (73, fun x => ∃ r : EaseX, x = .agg r.cells)
abbrev aI : TypeId × (DV → Prop) := (3, fun x => ∃ n : Int, x = .i n)
theorem allC3 {c d e : TypeId × (DV → Prop)} {xs : List DV} (h : AllC [c, d, e] xs) : ∃ x y z, xs = [x, y, z] ∧ c.2 x ∧ d.2 y ∧ e.2 z := by
  match xs, h with
  | [x, y, z], h => exact ⟨x, y, z, rfl, h.1, h.2.1, h.2.2.1⟩
end Go.Ab
namespace Go.Ab
open Go.RowKit Go.Proofs
set_option maxHeartbeats 8000000
set_option maxRecDepth 20000
attribute [local irreducible] WalkL Walk
theorem f14 (a : List Span) (ha : a.length < 2 ^ 30) : Fn Tryz.prog 14 [.sl (spanRows a), .sl (spanRows a)] (.bool true) := by
  have hne : ((a.length : Int) != (a.length : Int)) = false := by simp
  refine fn_walk 26 Tryz.call14 Tryz.func14 rfl (by decide) fun J => ?_
  simp (maxSteps := 4000000) only [go_sem, St.start, Tryz.ntmps14, Tryz.results14]
  repeat (first | refine walkL_true rfl ?_ | refine walkL_false rfl ?_ | refine walkL_seq ?_ | refine walkL_skip ?_ | refine walkL_block ?_ | (refine walkL_region fun K hK => ?_; simp (maxSteps := 4000000) only [go_sem, hne]; refine hK _ ?_; clear hK K) | refine walkL_nil ?_ | refine walkL_ret ?_ | refine walkL_exit ?_ | refine blockA_here ?_ | refine blockA_other rfl ?_ | refine blockA_ret ?_ | refine blockA_normal ?_ | refine thenA_ret ?_ | refine thenA_exit ?_ | refine thenA_normal ?_)
  refine walkL_loopS (fun (i : Nat) => [(5, .d (.i i))]) (fun _ => []) (fun i => i ≤ a.length) (fun i => a.length - i) 0 ?_ (Nat.zero_le _) ?_
  · simp (maxSteps := 4000000) only [go_sem]
    refine weak_of [] ?_ ?_ rfl rfl <;> simp [lessT, lessM, lessB, AV.less]
  · intro i hi
    simp (maxSteps := 4000000) only [go_sem]
    repeat (first | refine walkL_seq ?_ | refine walkL_skip ?_ | refine walkL_block ?_ | (refine walkL_region fun K hK => ?_; simp (maxSteps := 4000000) only [go_sem]; refine hK _ ?_; clear hK K) | refine walkL_nil ?_ | refine walkL_ret ?_ | refine walkL_exit ?_ | refine blockA_here ?_ | refine blockA_other rfl ?_ | refine blockA_ret ?_ | refine blockA_normal ?_ | refine thenA_ret ?_ | refine thenA_exit ?_ | refine thenA_normal ?_)
    refine walkL_cond rfl (fun hb => ?_) (fun hb => ?_)
    · have hlt : i < a.length := by simpa using hb
      have hw : IntKind.i64.wrap ((i : Int) + 1) = ((i + 1 : Nat) : Int) := by rw [wr_small (by omega)]; simp
      obtain ⟨x, hx⟩ : ∃ x, a[i]? = some x := ⟨_, List.getElem?_eq_getElem hlt⟩
      have g1 := spanRows_at hx
      have q1 : (x.lo == x.lo) = true := by simp
      have q2 : (x.hi == x.hi) = true := by simp
      repeat (first | refine walkL_true rfl ?_ | refine walkL_false rfl ?_ | refine walkL_seq ?_ | refine walkL_skip ?_ | refine walkL_block ?_ | (refine walkL_region fun K hK => ?_; simp (maxSteps := 4000000) only [go_sem, g1, Span.row, q1, q2, hw, Bool.and_self, Bool.not_true]; refine hK _ ?_; clear hK K) | (refine walkL_drawn (by kernel_rfl) (by kernel_rfl) fun K hK => ?_; simp (maxSteps := 4000000) only [go_sem, g1, Span.row, q1, q2, hw, Bool.and_self, Bool.not_true]; refine ⟨by kernel_rfl, hK _ ?_⟩; clear hK K) | refine walkL_nil ?_ | refine walkL_ret ?_ | refine walkL_exit ?_ | refine blockA_here ?_ | refine blockA_other rfl ?_ | refine blockA_ret ?_ | refine blockA_normal ?_ | refine thenA_ret ?_ | refine thenA_exit ?_ | refine thenA_normal ?_)
      refine ⟨rfl, i + 1, ?_, hlt, by omega⟩
      refine weak_of [] ?_ ?_ rfl rfl <;> simp [lessT, lessM, lessB, AV.less]
    · have he : i = a.length := by (have : ¬ i < a.length := by simpa using hb); omega
      subst he
      repeat (first | refine walkL_seq ?_ | refine walkL_skip ?_ | refine walkL_block ?_ | (refine walkL_region fun K hK => ?_; simp (maxSteps := 4000000) only [go_sem]; refine hK _ ?_; clear hK K) | refine walkL_nil ?_ | refine walkL_ret ?_ | refine walkL_exit ?_ | refine blockA_here ?_ | refine blockA_other rfl ?_ | refine blockA_ret ?_ | refine blockA_normal ?_ | refine thenA_ret ?_ | refine thenA_exit ?_ | refine thenA_normal ?_)
      simp (maxSteps := 4000000) only [go_sem]
theorem f118 (l : Limits) (h : Hour) : Fn Tryz.prog 118 [.agg h.row, .agg l.row] (.bool (alwaysB l h)) := by
  refine fn_walk 37 Tryz.call118 Tryz.func118 rfl (by decide) fun J => ?_
  simp (maxSteps := 4000000) only [go_sem, St.start, Tryz.ntmps118, Tryz.results118, Limits.row, Hour.row]
  cases q1 : decide (h.wind.hi ≤ l.wind) <;> cases q2 : decide (h.rain.hi ≤ l.rain) <;> cases q3 : decide (h.temp.lo ≥ l.temp.lo)
  all_goals
    have q4 : decide (l.temp.lo ≤ h.temp.lo) = _ := q3
    repeat (first | refine walkL_seq ?_ | refine walkL_skip ?_ | refine walkL_block ?_ | (refine walkL_region fun K hK => ?_; simp (maxSteps := 4000000) only [go_sem, q1, q2, q3]; refine hK _ ?_; clear hK K) | refine walkL_nil ?_ | refine walkL_ret ?_ | refine walkL_exit ?_ | refine blockA_here ?_ | refine blockA_other rfl ?_ | refine blockA_ret ?_ | refine blockA_normal ?_ | refine thenA_ret ?_ | refine thenA_exit ?_ | refine thenA_normal ?_)
    simp (maxSteps := 4000000) only [go_sem, alwaysB, q1, q2, q4]
def mayB (l : Limits) (h : Hour) : Bool := decide (h.wind.lo ≤ l.wind) && (decide (h.rain.lo ≤ l.rain) && (decide (h.temp.lo ≤ l.temp.hi) && decide (h.temp.hi ≥ l.temp.lo)))
theorem f119 (l : Limits) (h : Hour) : Fn Tryz.prog 119 [.agg h.row, .agg l.row] (.bool (mayB l h)) := by
  refine fn_walk 37 Tryz.call119 Tryz.func119 rfl (by decide) fun J => ?_
  simp (maxSteps := 4000000) only [go_sem, St.start, Tryz.ntmps119, Tryz.results119, Limits.row, Hour.row]
  cases q1 : decide (h.wind.lo ≤ l.wind) <;> cases q2 : decide (h.rain.lo ≤ l.rain) <;> cases q3 : decide (h.temp.lo ≤ l.temp.hi)
  all_goals
    repeat (first | refine walkL_seq ?_ | refine walkL_skip ?_ | refine walkL_block ?_ | (refine walkL_region fun K hK => ?_; simp (maxSteps := 4000000) only [go_sem, q1, q2, q3]; refine hK _ ?_; clear hK K) | refine walkL_nil ?_ | refine walkL_ret ?_ | refine walkL_exit ?_ | refine blockA_here ?_ | refine blockA_other rfl ?_ | refine blockA_ret ?_ | refine blockA_normal ?_ | refine thenA_ret ?_ | refine thenA_exit ?_ | refine thenA_normal ?_)
    simp (maxSteps := 4000000) only [go_sem, mayB, q1, q2, q3]
theorem may_ever {l : Limits} {h : Hour} (hl : l.temp.lo ≤ l.temp.hi) (hh : h.temp.lo ≤ h.temp.hi) : mayB l h = everB l h := by
  unfold mayB everB
  congr 2
  rw [← Bool.decide_and]
  apply decide_eq_decide.2
  omega
theorem seen_valsE (F : List (List Hour)) (seen : List Sight) (err : Int) (t : Bool) : (seenF F seen ≠ 0 → lookF F seen err t = seenF F seen) ∧
    (seenF F seen = 0 → ForeGood F ∧ sightsB (hd0 F).length seen = true ∧ lookF F seen err t = if err = 0 then (if t then (if (possL F seen).isEmpty then 3 else 0) else 1) else err) := by
  unfold seenF lookF
  cases hb : badF F
  · cases hq : sightsB (hd0 F).length seen
    · simp
    · simp only [Bool.false_eq_true, if_false, if_true]
      exact ⟨fun h => absurd rfl h, fun _ => ⟨fore_iff.1 hb, trivial, trivial⟩⟩
  · simp
theorem f67 (F : List (List Hour)) (seen : List Sight) (l : Limits) (t : Bool) (hs : ForeSmall F) (hsl : seen.length < 2 ^ 30) :
    Fn Tryz.prog 67 [.agg [.sl (scenRows F)], .sl (sightRows seen), .agg l.row, .bool t] (.i (lookF F seen (limE l) t)) := by
  have h54 := f54 F seen hs hsl
  have h104 := f104 l
  rw [Limits.row] at h104
  have hsv := seen_valsE F seen (limE l) t
  obtain ⟨r, hr⟩ : ∃ r, r = lookF F seen (limE l) t := ⟨_, rfl⟩
  rw [← hr] at hsv ⊢
  clear hr
  obtain ⟨e, he⟩ : ∃ e, e = seenF F seen := ⟨_, rfl⟩
  rw [← he] at h54 hsv
  by_cases h0 : e = 0
  · obtain ⟨hg, hsi, hlk⟩ := hsv.2 h0
    have hz : (e != 0) = false := by simp [h0]
    have h57 := f57 F seen hg hsi
    unfold limE at hlk
    obtain ⟨b, eb⟩ : ∃ b, b = limB l := ⟨_, rfl⟩
    rw [← eb] at h104 hlk
    cases b
    · simp only [Bool.false_eq_true, if_false] at hlk
      rw [if_neg (by decide)] at hlk
      subst hlk
      refine fn_walk 26 Tryz.call67 Tryz.func67 rfl (by decide) fun J => ?_
      simp (maxSteps := 4000000) only [go_sem, St.start, Tryz.ntmps67, Tryz.results67, Limits.row]
      repeat (first | refine walkL_true rfl ?_ | refine walkL_false rfl ?_ | refine walkL_seq ?_ | refine walkL_skip ?_ | refine walkL_block ?_ | (refine walkL_region fun K hK => ?_; simp (maxSteps := 4000000) only [go_sem, hz]; (repeat (first | (refine ⟨_, .lent (hf := h54) (hd := rfl) (hr := rfl), ?_⟩; simp (maxSteps := 4000000) only [go_sem, hz]) | (refine ⟨_, .lent (hf := h104) (hd := rfl) (hr := rfl), ?_⟩; simp (maxSteps := 4000000) only [go_sem, hz]) | (refine ⟨_, .given (hf := h54) (hd := rfl) (ha := rfl), ?_⟩; simp (maxSteps := 4000000) only [go_sem, hz]) | (refine ⟨_, .given (hf := h104) (hd := rfl) (ha := rfl), ?_⟩; simp (maxSteps := 4000000) only [go_sem, hz]))); refine hK _ ?_; clear hK K) | refine walkL_nil ?_ | refine walkL_ret ?_ | refine walkL_exit ?_ | refine blockA_here ?_ | refine blockA_other rfl ?_ | refine blockA_ret ?_ | refine blockA_normal ?_ | refine thenA_ret ?_ | refine thenA_exit ?_ | refine thenA_normal ?_)
      simp (maxSteps := 4000000) only [go_sem]
    · simp only [if_true] at hlk
      cases t
      · simp only [Bool.false_eq_true, if_false] at hlk
        subst hlk
        refine fn_walk 26 Tryz.call67 Tryz.func67 rfl (by decide) fun J => ?_
        simp (maxSteps := 4000000) only [go_sem, St.start, Tryz.ntmps67, Tryz.results67, Limits.row]
        repeat (first | refine walkL_true rfl ?_ | refine walkL_false rfl ?_ | refine walkL_seq ?_ | refine walkL_skip ?_ | refine walkL_block ?_ | (refine walkL_region fun K hK => ?_; simp (maxSteps := 4000000) only [go_sem, hz]; (repeat (first | (refine ⟨_, .lent (hf := h54) (hd := rfl) (hr := rfl), ?_⟩; simp (maxSteps := 4000000) only [go_sem, hz]) | (refine ⟨_, .lent (hf := h104) (hd := rfl) (hr := rfl), ?_⟩; simp (maxSteps := 4000000) only [go_sem, hz]) | (refine ⟨_, .given (hf := h54) (hd := rfl) (ha := rfl), ?_⟩; simp (maxSteps := 4000000) only [go_sem, hz]) | (refine ⟨_, .given (hf := h104) (hd := rfl) (ha := rfl), ?_⟩; simp (maxSteps := 4000000) only [go_sem, hz]))); refine hK _ ?_; clear hK K) | refine walkL_nil ?_ | refine walkL_ret ?_ | refine walkL_exit ?_ | refine blockA_here ?_ | refine blockA_other rfl ?_ | refine blockA_ret ?_ | refine blockA_normal ?_ | refine thenA_ret ?_ | refine thenA_exit ?_ | refine thenA_normal ?_)
        simp (maxSteps := 4000000) only [go_sem]
      · simp only [if_true] at hlk
        have hNl := nums_len (possL F seen)
        obtain ⟨N, hN⟩ : ∃ N, N = numsOf (possL F seen) := ⟨_, rfl⟩
        rw [← hN] at hNl h57
        cases hp : (possL F seen).isEmpty
        · rw [hp] at hlk
          simp only [Bool.false_eq_true, if_false] at hlk
          subst hlk
          have : possL F seen ≠ [] := fun hc => by rw [hc] at hp; cases hp
          have := List.length_pos_iff.2 this
          have n0 : ((N.length : Int) == 0) = false := by
            have : ¬ ((N.length : Int) = 0) := by omega
            simpa using this
          refine fn_walk 26 Tryz.call67 Tryz.func67 rfl (by decide) fun J => ?_
          simp (maxSteps := 4000000) only [go_sem, St.start, Tryz.ntmps67, Tryz.results67, Limits.row]
          repeat (first | refine walkL_true rfl ?_ | refine walkL_false rfl ?_ | refine walkL_seq ?_ | refine walkL_skip ?_ | refine walkL_block ?_ | (refine walkL_region fun K hK => ?_; simp (maxSteps := 4000000) only [go_sem, hz, n0]; (repeat (first | (refine ⟨_, .lent (hf := h54) (hd := rfl) (hr := rfl), ?_⟩; simp (maxSteps := 4000000) only [go_sem, hz, n0]) | (refine ⟨_, .lent (hf := h104) (hd := rfl) (hr := rfl), ?_⟩; simp (maxSteps := 4000000) only [go_sem, hz, n0]) | (refine ⟨_, .lent (hf := h57) (hd := rfl) (hr := rfl), ?_⟩; simp (maxSteps := 4000000) only [go_sem, hz, n0]) | (refine ⟨_, .given (hf := h54) (hd := rfl) (ha := rfl), ?_⟩; simp (maxSteps := 4000000) only [go_sem, hz, n0]) | (refine ⟨_, .given (hf := h104) (hd := rfl) (ha := rfl), ?_⟩; simp (maxSteps := 4000000) only [go_sem, hz, n0]) | (refine ⟨_, .given (hf := h57) (hd := rfl) (ha := rfl), ?_⟩; simp (maxSteps := 4000000) only [go_sem, hz, n0]))); refine hK _ ?_; clear hK K) | refine walkL_nil ?_ | refine walkL_ret ?_ | refine walkL_exit ?_ | refine blockA_here ?_ | refine blockA_other rfl ?_ | refine blockA_ret ?_ | refine blockA_normal ?_ | refine thenA_ret ?_ | refine thenA_exit ?_ | refine thenA_normal ?_)
          simp (maxSteps := 4000000) only [go_sem]
        · rw [hp] at hlk
          simp only [if_true] at hlk
          subst hlk
          have : possL F seen = [] := List.isEmpty_iff.1 hp
          have n0 : ((N.length : Int) == 0) = true := by rw [hNl, this]; rfl
          refine fn_walk 26 Tryz.call67 Tryz.func67 rfl (by decide) fun J => ?_
          simp (maxSteps := 4000000) only [go_sem, St.start, Tryz.ntmps67, Tryz.results67, Limits.row]
          repeat (first | refine walkL_true rfl ?_ | refine walkL_false rfl ?_ | refine walkL_seq ?_ | refine walkL_skip ?_ | refine walkL_block ?_ | (refine walkL_region fun K hK => ?_; simp (maxSteps := 4000000) only [go_sem, hz, n0]; (repeat (first | (refine ⟨_, .lent (hf := h54) (hd := rfl) (hr := rfl), ?_⟩; simp (maxSteps := 4000000) only [go_sem, hz, n0]) | (refine ⟨_, .lent (hf := h104) (hd := rfl) (hr := rfl), ?_⟩; simp (maxSteps := 4000000) only [go_sem, hz, n0]) | (refine ⟨_, .lent (hf := h57) (hd := rfl) (hr := rfl), ?_⟩; simp (maxSteps := 4000000) only [go_sem, hz, n0]) | (refine ⟨_, .given (hf := h54) (hd := rfl) (ha := rfl), ?_⟩; simp (maxSteps := 4000000) only [go_sem, hz, n0]) | (refine ⟨_, .given (hf := h104) (hd := rfl) (ha := rfl), ?_⟩; simp (maxSteps := 4000000) only [go_sem, hz, n0]) | (refine ⟨_, .given (hf := h57) (hd := rfl) (ha := rfl), ?_⟩; simp (maxSteps := 4000000) only [go_sem, hz, n0]))); refine hK _ ?_; clear hK K) | refine walkL_nil ?_ | refine walkL_ret ?_ | refine walkL_exit ?_ | refine blockA_here ?_ | refine blockA_other rfl ?_ | refine blockA_ret ?_ | refine blockA_normal ?_ | refine thenA_ret ?_ | refine thenA_exit ?_ | refine thenA_normal ?_)
          simp (maxSteps := 4000000) only [go_sem]
  · rw [hsv.1 h0]
    have hz : (e != 0) = true := by simpa using h0
    refine fn_walk 26 Tryz.call67 Tryz.func67 rfl (by decide) fun J => ?_
    simp (maxSteps := 4000000) only [go_sem, St.start, Tryz.ntmps67, Tryz.results67, Limits.row]
    repeat (first | refine walkL_true rfl ?_ | refine walkL_false rfl ?_ | refine walkL_seq ?_ | refine walkL_skip ?_ | refine walkL_block ?_ | (refine walkL_region fun K hK => ?_; simp (maxSteps := 4000000) only [go_sem, hz]; (repeat (first | (refine ⟨_, .lent (hf := h54) (hd := rfl) (hr := rfl), ?_⟩; simp (maxSteps := 4000000) only [go_sem, hz]) | (refine ⟨_, .given (hf := h54) (hd := rfl) (ha := rfl), ?_⟩; simp (maxSteps := 4000000) only [go_sem, hz]))); refine hK _ ?_; clear hK K) | refine walkL_nil ?_ | refine walkL_ret ?_ | refine walkL_exit ?_ | refine blockA_here ?_ | refine blockA_other rfl ?_ | refine blockA_ret ?_ | refine blockA_normal ?_ | refine thenA_ret ?_ | refine thenA_exit ?_ | refine thenA_normal ?_)
    simp (maxSteps := 4000000) only [go_sem]
theorem spansQ_congr {q q' : Nat → Bool} : ∀ {n : Nat}, (∀ i, i < n → q i = q' i) → spansQ q n = spansQ q' n
  | 0, _ => rfl
  | n + 1, h => by
    rw [spansQ, spansQ, h n (by omega), spansQ_congr (fun i hi => h i (by omega))]
theorem f45 (b : List Bool) (hl : b.length < 2 ^ 30) : Fn Tryz.prog 45 [.sl (boolRows b)] (.sl (spanRows (spansQ (fun i => b.getD i false) b.length))) := by
  obtain ⟨q, hq⟩ : ∃ q : Nat → Bool, q = fun i => b.getD i false := ⟨_, rfl⟩
  rw [← hq]
  refine fn_walk 44 Tryz.call45 Tryz.func45 rfl (by decide) fun J => ?_
  simp (maxSteps := 4000000) only [go_sem, St.start, Tryz.ntmps45, Tryz.results45]
  repeat (first | refine walkL_seq ?_ | refine walkL_skip ?_ | refine walkL_block ?_ | (refine walkL_region fun K hK => ?_; simp (maxSteps := 4000000) only [go_sem]; refine hK _ ?_; clear hK K) | refine walkL_nil ?_ | refine walkL_ret ?_ | refine walkL_exit ?_ | refine blockA_here ?_ | refine blockA_other rfl ?_ | refine blockA_ret ?_ | refine blockA_normal ?_ | refine thenA_ret ?_ | refine thenA_exit ?_ | refine thenA_normal ?_)
  refine walkL_loopS (fun (i : Nat) => [(4, .d (.i i)), (3, .own 42), (5, .undef)]) (fun i => [(42, some (.arr 48 2 (spanRows (spansQ q i))))]) (fun i => i ≤ b.length) (fun i => b.length - i) 0 ?_ (Nat.zero_le _) ?_
  · simp (maxSteps := 4000000) only [go_sem]
    refine weak_of [42] ?_ ?_ rfl rfl <;> simp [lessT, lessM, lessB, AV.less]
    all_goals first | done | rfl
  · intro i hi
    simp (maxSteps := 4000000) only [go_sem]
    repeat (first | refine walkL_seq ?_ | refine walkL_skip ?_ | refine walkL_block ?_ | (refine walkL_region fun K hK => ?_; simp (maxSteps := 4000000) only [go_sem]; refine hK _ ?_; clear hK K) | refine walkL_nil ?_ | refine walkL_ret ?_ | refine walkL_exit ?_ | refine blockA_here ?_ | refine blockA_other rfl ?_ | refine blockA_ret ?_ | refine blockA_normal ?_ | refine thenA_ret ?_ | refine thenA_exit ?_ | refine thenA_normal ?_)
    refine walkL_cond rfl (fun hb => ?_) (fun hb => ?_)
    · have hlt : i < b.length := by simpa using hb
      have hw : IntKind.i64.wrap ((i : Int) + 1) = ((i + 1 : Nat) : Int) := by rw [wr_small (by omega)]; simp
      obtain ⟨x, hx⟩ : ∃ x, b[i]? = some x := ⟨_, List.getElem?_eq_getElem hlt⟩
      have g1 := boolRows_at hx
      have hqi : q i = x := by rw [hq]; simp [List.getD, hx]
      have hlen := spansQ_len q i
      have e1 : spansQ q (i + 1) = if x then addSpan (spansQ q i) (i : Int) else spansQ q i := by rw [← hqi]; rfl
      have c95 := f95 (i : Int)
      obtain ⟨L, hL⟩ : ∃ L, L = spansQ q i := ⟨_, rfl⟩
      rw [← hL] at e1 hlen ⊢
      have wi : IntKind.i64.wrap ((i : Int) - 1) = (i : Int) - 1 := wr_small (by omega)
      have hn1 : L.length + 1 ≤ 549755813888 := by omega
      cases x
      · simp only [Bool.false_eq_true, if_false] at e1
        repeat (first | refine walkL_true rfl ?_ | refine walkL_false rfl ?_ | refine walkL_seq ?_ | refine walkL_skip ?_ | refine walkL_block ?_ | (refine walkL_region fun K hK => ?_; simp (maxSteps := 4000000) only [go_sem, g1, hw]; refine hK _ ?_; clear hK K) | refine walkL_nil ?_ | refine walkL_ret ?_ | refine walkL_exit ?_ | refine blockA_here ?_ | refine blockA_other rfl ?_ | refine blockA_ret ?_ | refine blockA_normal ?_ | refine thenA_ret ?_ | refine thenA_exit ?_ | refine thenA_normal ?_)
        refine ⟨rfl, i + 1, ?_, hlt, by omega⟩
        rw [e1]
        refine weak_of [] ?_ ?_ rfl rfl <;> simp [lessT, lessM, lessB, AV.less]
        all_goals first | done | rfl
      · simp only [if_true] at e1
        rcases last_split L with hLe | ⟨A, s, hLe⟩
        · have e2 : addSpan L (i : Int) = [⟨i, i⟩] := by rw [hLe]; rfl
          rw [e2] at e1
          have d0 : decide ((L.length : Int) > 0) = false := by rw [hLe]; rfl
          have e3 : spanRows L ++ [[.i (i : Int), .i (i : Int)]] = spanRows [⟨i, i⟩] := by rw [hLe]; rfl
          repeat (first | refine walkL_true rfl ?_ | refine walkL_false rfl ?_ | refine walkL_seq ?_ | refine walkL_skip ?_ | refine walkL_block ?_ | (refine walkL_region fun K hK => ?_; simp (maxSteps := 4000000) only [go_sem, g1, d0, hw, hn1, e3]; (repeat (first | (refine ⟨_, .lent (hf := c95) (hd := rfl) (hr := rfl), ?_⟩; simp (maxSteps := 4000000) only [go_sem, g1, d0, hw, hn1, e3]) | (refine ⟨_, .given (hf := c95) (hd := rfl) (ha := rfl), ?_⟩; simp (maxSteps := 4000000) only [go_sem, g1, d0, hw, hn1, e3]))); refine hK _ ?_; clear hK K) | refine walkL_nil ?_ | refine walkL_ret ?_ | refine walkL_exit ?_ | refine blockA_here ?_ | refine blockA_other rfl ?_ | refine blockA_ret ?_ | refine blockA_normal ?_ | refine thenA_ret ?_ | refine thenA_exit ?_ | refine thenA_normal ?_)
          refine ⟨rfl, i + 1, ?_, hlt, by omega⟩
          rw [e1]
          refine weak_of [] ?_ ?_ rfl rfl <;> simp [lessT, lessM, lessB, AV.less]
          all_goals first | done | rfl
        · have hAl : L.length = A.length + 1 := by rw [hLe]; simp
          have wl : IntKind.i64.wrap ((L.length : Int) - 1) = (A.length : Int) := by rw [wr_small (by omega)]; omega
          have g2 : (spanRows L)[A.length]? = some s.row := spanRows_at (by rw [hLe]; simp)
          have hA1 : A.length < L.length := by omega
          have d0 : decide ((L.length : Int) > 0) = true := decide_eq_true (by omega)
          rw [hLe, addSpan_app] at e1
          cases q3 : (s.hi == (i : Int) - 1)
          · rw [q3] at e1
            simp only [Bool.false_eq_true, if_false] at e1
            rw [← hLe] at e1
            repeat (first | refine walkL_true rfl ?_ | refine walkL_false rfl ?_ | refine walkL_seq ?_ | refine walkL_skip ?_ | refine walkL_block ?_ | (refine walkL_region fun K hK => ?_; simp (maxSteps := 4000000) only [go_sem, g1, d0, g2, hA1, wl, Span.row, wi, q3, hw, hn1]; (repeat (first | (refine ⟨_, .lent (hf := c95) (hd := rfl) (hr := rfl), ?_⟩; simp (maxSteps := 4000000) only [go_sem, g1, d0, g2, hA1, wl, Span.row, wi, q3, hw, hn1]) | (refine ⟨_, .given (hf := c95) (hd := rfl) (ha := rfl), ?_⟩; simp (maxSteps := 4000000) only [go_sem, g1, d0, g2, hA1, wl, Span.row, wi, q3, hw, hn1]))); refine hK _ ?_; clear hK K) | refine walkL_nil ?_ | refine walkL_ret ?_ | refine walkL_exit ?_ | refine blockA_here ?_ | refine blockA_other rfl ?_ | refine blockA_ret ?_ | refine blockA_normal ?_ | refine thenA_ret ?_ | refine thenA_exit ?_ | refine thenA_normal ?_)
            refine ⟨rfl, i + 1, ?_, hlt, by omega⟩
            rw [e1, spanRows_push]
            refine weak_of [] ?_ ?_ rfl rfl <;> simp [lessT, lessM, lessB, AV.less]
            all_goals first | done | rfl
          · rw [q3] at e1
            simp only [if_true] at e1
            have e4 : (spanRows L).set A.length [.i s.lo, .i (i : Int)] = spanRows (A ++ [⟨s.lo, i⟩]) := by rw [hLe]; simp [spanRows, Span.row]
            repeat (first | refine walkL_true rfl ?_ | refine walkL_false rfl ?_ | refine walkL_seq ?_ | refine walkL_skip ?_ | refine walkL_block ?_ | (refine walkL_region fun K hK => ?_; simp (maxSteps := 4000000) only [go_sem, g1, d0, g2, hA1, wl, Span.row, wi, q3, hw, hn1]; refine hK _ ?_; clear hK K) | refine walkL_nil ?_ | refine walkL_ret ?_ | refine walkL_exit ?_ | refine blockA_here ?_ | refine blockA_other rfl ?_ | refine blockA_ret ?_ | refine blockA_normal ?_ | refine thenA_ret ?_ | refine thenA_exit ?_ | refine thenA_normal ?_)
            refine ⟨rfl, i + 1, ?_, hlt, by omega⟩
            rw [e1, ← e4]
            refine weak_of [] ?_ ?_ rfl rfl <;> simp [lessT, lessM, lessB, AV.less]
            all_goals first | done | rfl
    · have he : i = b.length := by (have : ¬ i < b.length := by simpa using hb); omega
      subst he
      repeat (first | refine walkL_seq ?_ | refine walkL_skip ?_ | refine walkL_block ?_ | (refine walkL_region fun K hK => ?_; simp (maxSteps := 4000000) only [go_sem]; refine hK _ ?_; clear hK K) | refine walkL_nil ?_ | refine walkL_ret ?_ | refine walkL_exit ?_ | refine blockA_here ?_ | refine blockA_other rfl ?_ | refine blockA_ret ?_ | refine blockA_normal ?_ | refine thenA_ret ?_ | refine thenA_exit ?_ | refine thenA_normal ?_)
      simp (maxSteps := 4000000) only [go_sem]
theorem f68 (F : List (List Hour)) (seen : List Sight) (l : Limits) (k : Int) (lk : List Hour) (hg : ForeGood F) (hsi : sightsB (hd0 F).length seen = true) (hk : 0 ≤ k) (hl : F[k.toNat]? = some lk) :
    Fn Tryz.prog 68 [.agg [.sl (scenRows F)], .sl (sightRows seen), .i k, .agg l.row] (.tup [.sl (boolRows ((seenHours seen lk).map (alwaysB l))), .sl (boolRows ((seenHours seen lk).map (mayB l)))]) := by
  have hsp := sights_spec hsi
  have hF := hg.scen
  have hH := hg.hours
  have hll := hg.len lk (List.mem_of_getElem? hl)
  have h30 := f30 F (hd0 F) (headD_get (by omega))
  have hSl := seenHours_len seen lk
  have hat : ∀ i : Nat, i < lk.length → atF seen lk (i : Int) = hourAt (seenHours seen lk) (i : Int) := fun i hi => atF_eq (seen := seen) (l := lk) (fun s hs => by have := hsp.1 s hs; omega) hsp.2.1 i
  have hget : ∀ i : Nat, i < lk.length → (seenHours seen lk)[i]? = some (hourAt (seenHours seen lk) (i : Int)) := fun i hi => by
    have := hourAt_get (l := seenHours seen lk) (i := (i : Int)) ⟨by omega, by simp; omega⟩
    simpa using this
  obtain ⟨S, hS⟩ : ∃ S, S = seenHours seen lk := ⟨_, rfl⟩
  rw [← hS] at hSl hat hget ⊢
  rw [← hll] at h30 hH
  have w0 : (lk.length : Int) = (S.length : Int) := by omega
  rw [w0] at h30
  refine fn_walk 37 Tryz.call68 Tryz.func68 rfl (by decide) fun J => ?_
  simp (maxSteps := 4000000) only [go_sem, St.start, Tryz.ntmps68, Tryz.results68, Limits.row]
  repeat (first | refine walkL_seq ?_ | refine walkL_skip ?_ | refine walkL_block ?_ | (refine walkL_region fun K hK => ?_; simp (maxSteps := 4000000) only [go_sem]; refine hK _ ?_; clear hK K) | refine walkL_nil ?_ | refine walkL_ret ?_ | refine walkL_exit ?_ | refine blockA_here ?_ | refine blockA_other rfl ?_ | refine blockA_ret ?_ | refine blockA_normal ?_ | refine thenA_ret ?_ | refine thenA_exit ?_ | refine thenA_normal ?_)
  refine walkL_loopS (fun (i : Nat) => [(10, .d (.i i)), (11, .undef), (8, .own 28), (9, .own 34)]) (fun i => [(28, some (.arr 4 1 (boolRows ((S.take i).map (alwaysB l))))), (34, some (.arr 4 1 (boolRows ((S.take i).map (mayB l)))))]) (fun i => i ≤ S.length) (fun i => S.length - i) 0 ?_ (Nat.zero_le _) ?_
  · simp (maxSteps := 4000000) only [go_sem]
    refine weak_of [28, 34] ?_ ?_ rfl rfl <;> simp [lessT, lessM, lessB, AV.less]
    all_goals first | done | rfl | exact ⟨rfl, rfl⟩
  · intro i hi
    simp (maxSteps := 4000000) only [go_sem]
    repeat (first | refine walkL_seq ?_ | refine walkL_skip ?_ | refine walkL_block ?_ | (refine walkL_region fun K hK => ?_; simp (maxSteps := 4000000) only [go_sem]; (repeat (first | (refine ⟨_, .lent (hf := h30) (hd := rfl) (hr := rfl), ?_⟩; simp (maxSteps := 4000000) only [go_sem]) | (refine ⟨_, .given (hf := h30) (hd := rfl) (ha := rfl), ?_⟩; simp (maxSteps := 4000000) only [go_sem]))); refine hK _ ?_; clear hK K) | refine walkL_nil ?_ | refine walkL_ret ?_ | refine walkL_exit ?_ | refine blockA_here ?_ | refine blockA_other rfl ?_ | refine blockA_ret ?_ | refine blockA_normal ?_ | refine thenA_ret ?_ | refine thenA_exit ?_ | refine thenA_normal ?_)
    refine walkL_cond rfl (fun hb => ?_) (fun hb => ?_)
    · have hlt : i < S.length := by simpa using hb
      have hw : IntKind.i64.wrap ((i : Int) + 1) = ((i + 1 : Nat) : Int) := by rw [wr_small (by omega)]; simp
      have c117 := f117 F seen lk k (i : Int) (by omega) hk hl ⟨by omega, by simp; omega⟩
      rw [hat i (by omega)] at c117
      have hx := hget i (by omega)
      obtain ⟨x, hx0⟩ : ∃ x, x = hourAt S (i : Int) := ⟨_, rfl⟩
      rw [← hx0] at c117 hx
      have c118 := f118 l x
      have c119 := f119 l x
      rw [Limits.row] at c118 c119
      rw [Hour.row] at c117 c118 c119
      have ht1 : (S.take (i + 1)).map (alwaysB l) = (S.take i).map (alwaysB l) ++ [alwaysB l x] := by rw [List.take_add_one, hx]; simp
      have ht2 : (S.take (i + 1)).map (mayB l) = (S.take i).map (mayB l) ++ [mayB l x] := by rw [List.take_add_one, hx]; simp
      obtain ⟨A, hA⟩ : ∃ A, A = (S.take i).map (alwaysB l) := ⟨_, rfl⟩
      obtain ⟨B, hB⟩ : ∃ B, B = (S.take i).map (mayB l) := ⟨_, rfl⟩
      have hAl : A.length = i := by rw [hA]; simp; omega
      have hBl : B.length = i := by rw [hB]; simp; omega
      have hn1 : A.length + 1 ≤ 549755813888 := by omega
      have hn2 : B.length + 1 ≤ 549755813888 := by omega
      rw [← hA] at ht1 ⊢
      rw [← hB] at ht2 ⊢
      obtain ⟨u, hu⟩ : ∃ u, u = alwaysB l x := ⟨_, rfl⟩
      obtain ⟨v, hv⟩ : ∃ v, v = mayB l x := ⟨_, rfl⟩
      rw [← hu] at c118 ht1
      rw [← hv] at c119 ht2
      repeat (first | refine walkL_seq ?_ | refine walkL_skip ?_ | refine walkL_block ?_ | (refine walkL_region fun K hK => ?_; simp (maxSteps := 4000000) only [go_sem, hn1, hn2, hw]; (repeat (first | (refine ⟨_, .lent (hf := c117) (hd := rfl) (hr := rfl), ?_⟩; simp (maxSteps := 4000000) only [go_sem, hn1, hn2, hw]) | (refine ⟨_, .lent (hf := c118) (hd := rfl) (hr := rfl), ?_⟩; simp (maxSteps := 4000000) only [go_sem, hn1, hn2, hw]) | (refine ⟨_, .lent (hf := c119) (hd := rfl) (hr := rfl), ?_⟩; simp (maxSteps := 4000000) only [go_sem, hn1, hn2, hw]) | (refine ⟨_, .given (hf := c117) (hd := rfl) (ha := rfl), ?_⟩; simp (maxSteps := 4000000) only [go_sem, hn1, hn2, hw]) | (refine ⟨_, .given (hf := c118) (hd := rfl) (ha := rfl), ?_⟩; simp (maxSteps := 4000000) only [go_sem, hn1, hn2, hw]) | (refine ⟨_, .given (hf := c119) (hd := rfl) (ha := rfl), ?_⟩; simp (maxSteps := 4000000) only [go_sem, hn1, hn2, hw]))); refine hK _ ?_; clear hK K) | refine walkL_nil ?_ | refine walkL_ret ?_ | refine walkL_exit ?_ | refine blockA_here ?_ | refine blockA_other rfl ?_ | refine blockA_ret ?_ | refine blockA_normal ?_ | refine thenA_ret ?_ | refine thenA_exit ?_ | refine thenA_normal ?_)
      refine ⟨rfl, i + 1, ?_, hlt, by omega⟩
      rw [ht1, ht2, boolRows_push, boolRows_push]
      refine weak_of [] ?_ ?_ rfl rfl <;> simp [lessT, lessM, lessB, AV.less]
      all_goals first | done | rfl | exact ⟨rfl, rfl⟩
    · have he : i = S.length := by (have : ¬ i < S.length := by simpa using hb); omega
      subst he
      rw [List.take_length]
      repeat (first | refine walkL_seq ?_ | refine walkL_skip ?_ | refine walkL_block ?_ | (refine walkL_region fun K hK => ?_; simp (maxSteps := 4000000) only [go_sem]; refine hK _ ?_; clear hK K) | refine walkL_nil ?_ | refine walkL_ret ?_ | refine walkL_exit ?_ | refine blockA_here ?_ | refine blockA_other rfl ?_ | refine blockA_ret ?_ | refine blockA_normal ?_ | refine thenA_ret ?_ | refine thenA_exit ?_ | refine thenA_normal ?_)
      simp (maxSteps := 4000000) only [go_sem]
      try rfl
end Go.Ab
namespace Go.Ab
open Go.RowKit Go.Proofs
set_option maxHeartbeats 16000000
set_option maxRecDepth 20000
attribute [local irreducible] WalkL Walk
theorem seen_hour {F : List (List Hour)} {seen : List Sight} (hg : ForeGood F) (hsi : sightsB (hd0 F).length seen = true) {lk : List Hour} (hl : lk ∈ F) : ∀ h ∈ seenHours seen lk, hourB h = true := by
  obtain ⟨s1, s2, s3⟩ := sights_spec hsi
  have key : ∀ (sn : List Sight) (l : List Hour), (∀ s ∈ sn, hourB (pointH s.sky) = true) → (∀ h ∈ l, hourB h = true) → ∀ h ∈ seenHours sn l, hourB h = true := by
    intro sn
    induction sn with
    | nil => intro l _ h2 h hh; exact h2 h hh
    | cons s sn ih =>
      intro l h1 h2 h hh
      rw [seenHours, List.foldl_cons] at hh
      refine ih _ (fun s hs => h1 s (List.mem_cons_of_mem _ hs)) (fun g hg => ?_) h hh
      rcases List.mem_or_eq_of_mem_set hg with hg | rfl
      · exact h2 g hg
      · exact h1 s (List.mem_cons_self ..)
  exact key seen lk (fun s hs => (s1 s hs).2.2) (hg.hour lk hl)
theorem hour_temp {h : Hour} (hb : hourB h = true) : h.temp.lo ≤ h.temp.hi := by
  unfold hourB at hb
  simp only [Bool.and_eq_true, ordered_iff] at hb
  omega
structure Poss (F : List (List Hour)) (seen : List Sight) (l : Limits) (S : List (List Hour)) (N : List Int) (H : Nat) : Prop where
  len : N.length = S.length
  few : S.length ≤ 6
  pos : 0 < S.length
  hours : 1 ≤ H ∧ H ≤ 48
  all : ∀ s ∈ S, s.length = H
  get : ∀ (i : Nat) s, S[i]? = some s → ∃ k, N[i]? = some k ∧ 0 ≤ k ∧ Fn Tryz.prog 68 [.agg [.sl (scenRows F)], .sl (sightRows seen), .i k, .agg l.row] (.tup [.sl (boolRows (s.map (alwaysB l))), .sl (boolRows (s.map (everB l)))])
theorem poss_of {F : List (List Hour)} {seen : List Sight} {l : Limits} {err : Int} {t : Bool} (h : lookF F seen err t = 0) (hl : limB l = true) : Poss F seen l (scensOf (possL F seen)) (numsOf (possL F seen)) (hd0 F).length := by
  obtain ⟨hg, hsi, hne, _, _⟩ := look_all h
  have hF := hg.scen
  have hpl : (possL F seen).length ≤ F.length := possFrom_len _ _ _
  refine ⟨by rw [nums_len, scens_len], by rw [scens_len]; omega, by rw [scens_len]; exact List.length_pos_iff.2 hne, hg.hours, scens_all hg, fun i s hs => ?_⟩
  obtain ⟨k, hk⟩ : ∃ k, (numsOf (possL F seen))[i]? = some k := ⟨_, List.getElem?_eq_getElem (by rw [nums_len, ← scens_len]; exact (List.getElem?_eq_some_iff.1 hs).1)⟩
  obtain ⟨k0, lk, hlk, _, _, hpi⟩ := nums_get hk
  have e : s = seenHours seen lk := by
    rw [scensOf, List.getElem?_map, hpi] at hs
    simp at hs
    exact hs.symm
  have hm := List.mem_of_getElem? hlk
  have h68 := f68 F seen l k lk hg hsi k0 hlk
  rw [← e] at h68
  have hme : s.map (mayB l) = s.map (everB l) := List.map_congr_left fun h hh => may_ever (by have := (lim_iff.1 hl).2.2; omega) (hour_temp (seen_hour hg hsi hm h (e ▸ hh)))
  rw [hme] at h68
  exact ⟨k, hk, k0, h68⟩
def rowAll (q : Hour → Bool) (S : List (List Hour)) (H : Nat) : List Bool := (List.range H).map fun (h : Nat) => S.all fun s => q (hourAt s (h : Int))
def rowAny (q : Hour → Bool) (S : List (List Hour)) (H : Nat) : List Bool := (List.range H).map fun (h : Nat) => S.any fun s => q (hourAt s (h : Int))
theorem rowAll_len (q : Hour → Bool) (S : List (List Hour)) (H : Nat) : (rowAll q S H).length = H := by simp [rowAll]
theorem rowAny_len (q : Hour → Bool) (S : List (List Hour)) (H : Nat) : (rowAny q S H).length = H := by simp [rowAny]
theorem rowAll_step (q : Hour → Bool) {S : List (List Hour)} {H i : Nat} {s : List Hour} (hs : S[i]? = some s) : rowAll q (S.take (i + 1)) H = (rowAll q (S.take i) H).mapIdx fun (h : Nat) b => b && q (hourAt s (h : Int)) := by
  apply List.ext_getElem?
  intro j
  have e : S.take (i + 1) = S.take i ++ [s] := by rw [List.take_add_one, hs]; rfl
  by_cases hj : j < H
  · simp [rowAll, hj, e, List.getElem?_mapIdx]
  · simp [rowAll, hj, List.getElem?_mapIdx]
theorem rowAny_step (q : Hour → Bool) {S : List (List Hour)} {H i : Nat} {s : List Hour} (hs : S[i]? = some s) : rowAny q (S.take (i + 1)) H = (rowAny q (S.take i) H).mapIdx fun (h : Nat) b => b || q (hourAt s (h : Int)) := by
  apply List.ext_getElem?
  intro j
  have e : S.take (i + 1) = S.take i ++ [s] := by rw [List.take_add_one, hs]; rfl
  by_cases hj : j < H
  · simp [rowAny, hj, e, List.getElem?_mapIdx]
  · simp [rowAny, hj, List.getElem?_mapIdx]
theorem rowAll_zero (q : Hour → Bool) (H : Nat) : rowAll q [] H = List.replicate H true := by
  apply List.ext_getElem?
  intro j
  by_cases hj : j < H <;> simp [rowAll, hj, List.getElem?_replicate]
theorem rowAny_zero (q : Hour → Bool) (H : Nat) : rowAny q [] H = List.replicate H false := by
  apply List.ext_getElem?
  intro j
  by_cases hj : j < H <;> simp [rowAny, hj, List.getElem?_replicate]
theorem boolRows_rep (n : Nat) (b : Bool) : List.replicate n [DV.bool b] = boolRows (List.replicate n b) := by simp [boolRows]
theorem boolRows_set (l : List Bool) (k : Nat) (b : Bool) : (boolRows l).set k [.bool b] = boolRows (l.set k b) := by simp [boolRows, List.map_set]
theorem f23 (F : List (List Hour)) (seen : List Sight) (l : Limits) (hs : ForeSmall F) (hsl : seen.length < 2 ^ 30) :
    Fn Tryz.prog 23 [.agg [.sl (scenRows F)], .sl (sightRows seen), .agg l.row] (.tup [.sl (spanRows (keepsF F seen l).1), .sl (spanRows (keepsF F seen l).2.1), .i (keepsF F seen l).2.2]) := by
  have h67 := f67 F seen l true hs hsl
  obtain ⟨e, he⟩ : ∃ e, e = lookF F seen (limE l) true := ⟨_, rfl⟩
  unfold keepsF
  rw [← he] at h67 ⊢
  by_cases h0 : e = 0
  · rw [if_pos h0]
    have hz : (e != 0) = false := by simp [h0]
    rw [h0] at he
    obtain ⟨hg, hsi, hne, hlim, _⟩ := look_all he.symm
    have hlb : limB l = true := by
      unfold limE at hlim
      split at hlim
      · assumption
      · cases hlim
    have hp := poss_of he.symm hlb
    have h57 := f57 F seen hg hsi
    have h30 := f30 F (hd0 F) (headD_get (by have := hg.scen; omega))
    obtain ⟨N, hN⟩ : ∃ N, N = numsOf (possL F seen) := ⟨_, rfl⟩
    obtain ⟨S, hS⟩ : ∃ S, S = scensOf (possL F seen) := ⟨_, rfl⟩
    obtain ⟨H, hHe⟩ : ∃ H, H = (hd0 F).length := ⟨_, rfl⟩
    rw [← hN, ← hS, ← hHe] at hp
    rw [← hS, ← hHe]
    rw [← hN] at h57
    rw [← hHe] at h30
    have hlen := hp.len
    have hfew := hp.few
    have hH := hp.hours
    have eA : spansQ (fun i => S.all fun s => alwaysB l (hourAt s (i : Int))) H = spansQ (fun i => (rowAll (alwaysB l) S H).getD i false) (rowAll (alwaysB l) S H).length := by
      rw [rowAll_len]
      exact spansQ_congr fun i hi => by simp [rowAll, List.getD, hi]
    have eB : spansQ (fun i => S.any fun s => everB l (hourAt s (i : Int))) H = spansQ (fun i => (rowAny (everB l) S H).getD i false) (rowAny (everB l) S H).length := by
      rw [rowAny_len]
      exact spansQ_congr fun i hi => by simp [rowAny, List.getD, hi]
    rw [eA, eB]
    have cA := f45 (rowAll (alwaysB l) S H) (by rw [rowAll_len]; omega)
    have cB := f45 (rowAny (everB l) S H) (by rw [rowAny_len]; omega)
    obtain ⟨XA, hXA⟩ : ∃ X, X = spansQ (fun i => (rowAll (alwaysB l) S H).getD i false) (rowAll (alwaysB l) S H).length := ⟨_, rfl⟩
    obtain ⟨XB, hXB⟩ : ∃ X, X = spansQ (fun i => (rowAny (everB l) S H).getD i false) (rowAny (everB l) S H).length := ⟨_, rfl⟩
    rw [← hXA] at cA ⊢
    rw [← hXB] at cB ⊢
    have m1 : (0 : Int) ≤ (H : Int) ∧ (H : Int) ≤ 1099511627776 := by omega
    have m2 : True ∧ (0 : Int) ≤ (H : Int) ∧ (H : Int) ≤ 1099511627776 := ⟨trivial, m1⟩
    refine fn_walk 96 Tryz.call23 Tryz.func23 rfl (by decide) fun J => ?_
    simp (maxSteps := 4000000) only [go_sem, St.start, Tryz.ntmps23, Tryz.results23, Limits.row]
    repeat (first | refine walkL_true rfl ?_ | refine walkL_false rfl ?_ | refine walkL_seq ?_ | refine walkL_skip ?_ | refine walkL_block ?_ | (refine walkL_region fun K hK => ?_; simp (maxSteps := 4000000) only [go_sem, hz]; (repeat (first | (refine ⟨_, .lent (hf := h67) (hd := rfl) (hr := rfl), ?_⟩; simp (maxSteps := 4000000) only [go_sem, hz]) | (refine ⟨_, .given (hf := h67) (hd := rfl) (ha := rfl), ?_⟩; simp (maxSteps := 4000000) only [go_sem, hz]))); refine hK _ ?_; clear hK K) | refine walkL_nil ?_ | refine walkL_ret ?_ | refine walkL_exit ?_ | refine blockA_here ?_ | refine blockA_other rfl ?_ | refine blockA_ret ?_ | refine blockA_normal ?_ | refine thenA_ret ?_ | refine thenA_exit ?_ | refine thenA_normal ?_)
    refine walkL_drawn (by kernel_rfl) (by kernel_rfl) fun K hK => ?_
    simp (maxSteps := 4000000) only [go_sem]
    refine ⟨_, .fn (hf := h30) (hd := rfl) (hr := .inl rfl), ?_⟩
    simp (maxSteps := 4000000) only [go_sem]
    simp (maxSteps := 4000000) only [go_sem, m1, m2]
    refine ⟨_, .fn (hf := h30) (hd := rfl) (hr := .inl rfl), ?_⟩
    simp (maxSteps := 4000000) only [go_sem]
    simp (maxSteps := 4000000) only [go_sem, m1, m2]
    refine ⟨by kernel_rfl, hK _ ?_⟩
    clear hK K
    have z0 : List.replicate H [DV.bool false] = boolRows (updI (fun _ _ => true) (List.replicate H false) 0) := by rw [updI_zero, boolRows_rep]
    have z1 : List.replicate H [DV.bool false] = boolRows (rowAny (everB l) (S.take 0) H) := by rw [List.take_zero, rowAny_zero, boolRows_rep]
    repeat (first | refine walkL_true rfl ?_ | refine walkL_false rfl ?_ | refine walkL_seq ?_ | refine walkL_skip ?_ | refine walkL_block ?_ | (refine walkL_region fun K hK => ?_; simp (maxSteps := 4000000) only [go_sem]; refine hK _ ?_; clear hK K) | refine walkL_nil ?_ | refine walkL_ret ?_ | refine walkL_exit ?_ | refine blockA_here ?_ | refine blockA_other rfl ?_ | refine blockA_ret ?_ | refine blockA_normal ?_ | refine thenA_ret ?_ | refine thenA_exit ?_ | refine thenA_normal ?_)
    refine walkL_loopS (fun (i : Nat) => [(12, .d (.i i))]) (fun i => [(27, some (.arr 4 1 (boolRows (updI (fun _ _ => true) (List.replicate H false) i))))]) (fun i => i ≤ H) (fun i => H - i) 0 ?_ (Nat.zero_le _) ?_
    · simp (maxSteps := 4000000) only [go_sem]
      refine weak_of [] ?_ ?_ rfl rfl <;> simp [lessT, lessM, lessB, AV.less]
      all_goals first | done | exact z0 | rfl | exact ⟨rfl, rfl⟩
    · intro i hi
      have hUl : (updI (fun _ _ => true) (List.replicate H false) i).length = H := by rw [updI_len]; simp
      simp (maxSteps := 4000000) only [go_sem]
      repeat (first | refine walkL_seq ?_ | refine walkL_skip ?_ | refine walkL_block ?_ | (refine walkL_region fun K hK => ?_; simp (maxSteps := 4000000) only [go_sem, boolRows_len, hUl]; refine hK _ ?_; clear hK K) | refine walkL_nil ?_ | refine walkL_ret ?_ | refine walkL_exit ?_ | refine blockA_here ?_ | refine blockA_other rfl ?_ | refine blockA_ret ?_ | refine blockA_normal ?_ | refine thenA_ret ?_ | refine thenA_exit ?_ | refine thenA_normal ?_)
      refine walkL_cond rfl (fun hb => ?_) (fun hb => ?_)
      · have hlt : i < H := by simpa using hb
        have hw : IntKind.i64.wrap ((i : Int) + 1) = ((i + 1 : Nat) : Int) := by rw [wr_small (by omega)]; simp
        have hx : (List.replicate H false)[i]? = some false := by simp [hlt]
        have u1 := updI_get (fun (_ : Nat) (_ : Bool) => true) hx
        have u2 := updI_set (fun (_ : Nat) (_ : Bool) => true) hx
        have g1 := boolRows_at u1
        have u3 : (boolRows (updI (fun _ _ => true) (List.replicate H false) i)).set i [.bool true] = boolRows (updI (fun _ _ => true) (List.replicate H false) (i + 1)) := by rw [boolRows_set, u2]
        obtain ⟨U, hU⟩ : ∃ U, U = updI (fun (_ : Nat) (_ : Bool) => true) (List.replicate H false) i := ⟨_, rfl⟩
        rw [← hU] at g1 u3 hUl ⊢
        have hiU : i < U.length := by omega
        repeat (first | refine walkL_seq ?_ | refine walkL_skip ?_ | refine walkL_block ?_ | (refine walkL_region fun K hK => ?_; simp (maxSteps := 4000000) only [go_sem, g1, hiU, hw]; refine hK _ ?_; clear hK K) | refine walkL_nil ?_ | refine walkL_ret ?_ | refine walkL_exit ?_ | refine blockA_here ?_ | refine blockA_other rfl ?_ | refine blockA_ret ?_ | refine blockA_normal ?_ | refine thenA_ret ?_ | refine thenA_exit ?_ | refine thenA_normal ?_)
        refine ⟨rfl, i + 1, ?_, hlt, by omega⟩
        rw [← u3]
        refine weak_of [] ?_ ?_ rfl rfl <;> simp [lessT, lessM, lessB, AV.less]
        all_goals first | done | rfl
      · have he : H = i := by (have : ¬ i < H := by simpa using hb); omega
        subst he
        have zA : boolRows (updI (fun _ _ => true) (List.replicate H false) H) = boolRows (rowAll (alwaysB l) (S.take 0) H) := by
          have := updI_all (fun (_ : Nat) (_ : Bool) => true) (List.replicate H false)
          rw [List.length_replicate] at this
          rw [this, List.take_zero, rowAll_zero]
          congr 1
          apply List.ext_getElem?
          intro j
          by_cases hj : j < H <;> simp [List.getElem?_mapIdx, List.getElem?_replicate, hj]
        rw [zA, z1]
        repeat (first | refine walkL_seq ?_ | refine walkL_skip ?_ | refine walkL_block ?_ | (refine walkL_region fun K hK => ?_; simp (maxSteps := 4000000) only [go_sem]; (repeat (first | (refine ⟨_, .lent (hf := h57) (hd := rfl) (hr := rfl), ?_⟩; simp (maxSteps := 4000000) only [go_sem]) | (refine ⟨_, .given (hf := h57) (hd := rfl) (ha := rfl), ?_⟩; simp (maxSteps := 4000000) only [go_sem]))); refine hK _ ?_; clear hK K) | refine walkL_nil ?_ | refine walkL_ret ?_ | refine walkL_exit ?_ | refine blockA_here ?_ | refine blockA_other rfl ?_ | refine blockA_ret ?_ | refine blockA_normal ?_ | refine thenA_ret ?_ | refine thenA_exit ?_ | refine thenA_normal ?_)
        refine walkL_loopS (fun (i : Nat) => [(14, .d (.i i)), (15, .undef), (16, .undef), (17, .undef)]) (fun i => [(27, some (.arr 4 1 (boolRows (rowAll (alwaysB l) (S.take i) H)))), (30, some (.arr 4 1 (boolRows (rowAny (everB l) (S.take i) H))))]) (fun i => i ≤ S.length) (fun i => S.length - i) 0 ?_ (Nat.zero_le _) ?_
        · simp (maxSteps := 4000000) only [go_sem]
          refine weak_of [] ?_ ?_ rfl rfl <;> simp [lessT, lessM, lessB, AV.less]
          all_goals first | done | rfl | exact ⟨rfl, rfl⟩
        · intro i hi
          have lA := rowAll_len (alwaysB l) (S.take i) H
          have lB := rowAny_len (everB l) (S.take i) H
          have wN : (N.length : Int) = (S.length : Int) := by omega
          simp (maxSteps := 4000000) only [go_sem]
          repeat (first | refine walkL_seq ?_ | refine walkL_skip ?_ | refine walkL_block ?_ | (refine walkL_region fun K hK => ?_; simp (maxSteps := 4000000) only [go_sem, intRows_len, wN]; refine hK _ ?_; clear hK K) | refine walkL_nil ?_ | refine walkL_ret ?_ | refine walkL_exit ?_ | refine blockA_here ?_ | refine blockA_other rfl ?_ | refine blockA_ret ?_ | refine blockA_normal ?_ | refine thenA_ret ?_ | refine thenA_exit ?_ | refine thenA_normal ?_)
          refine walkL_cond rfl (fun hb => ?_) (fun hb => ?_)
          · have hlti : i < S.length := by simpa using hb
            have hwi : IntKind.i64.wrap ((i : Int) + 1) = ((i + 1 : Nat) : Int) := by rw [wr_small (by omega)]; simp
            obtain ⟨s, hx⟩ : ∃ s, S[i]? = some s := ⟨_, List.getElem?_eq_getElem hlti⟩
            obtain ⟨k, hk, hk0, h68⟩ := hp.get i s hx
            have hsH := hp.all s (List.mem_of_getElem? hx)
            have gk := intRows_at hk
            have stA := rowAll_step (alwaysB l) (H := H) hx
            have stB := rowAny_step (everB l) (H := H) hx
            obtain ⟨A, hA⟩ : ∃ A, A = rowAll (alwaysB l) (S.take i) H := ⟨_, rfl⟩
            obtain ⟨B, hB⟩ : ∃ B, B = rowAny (everB l) (S.take i) H := ⟨_, rfl⟩
            rw [← hA] at lA stA ⊢
            rw [← hB] at lB stB ⊢
            rw [Limits.row] at h68
            obtain ⟨fa, hfa⟩ : ∃ f : Nat → Bool → Bool, f = fun (h : Nat) b => b && alwaysB l (hourAt s (h : Int)) := ⟨_, rfl⟩
            obtain ⟨fb, hfb⟩ : ∃ f : Nat → Bool → Bool, f = fun (h : Nat) b => b || everB l (hourAt s (h : Int)) := ⟨_, rfl⟩
            rw [← hfa] at stA
            rw [← hfb] at stB
            repeat (first | refine walkL_seq ?_ | refine walkL_skip ?_ | refine walkL_block ?_ | (refine walkL_region fun K hK => ?_; simp (maxSteps := 4000000) only [go_sem]; refine hK _ ?_; clear hK K) | refine walkL_nil ?_ | refine walkL_ret ?_ | refine walkL_exit ?_ | refine blockA_here ?_ | refine blockA_other rfl ?_ | refine blockA_ret ?_ | refine blockA_normal ?_ | refine thenA_ret ?_ | refine thenA_exit ?_ | refine thenA_normal ?_)
            refine walkL_drawn (by kernel_rfl) (by kernel_rfl) fun K hK => ?_
            simp (maxSteps := 4000000) only [go_sem, gk]
            refine ⟨_, .fn (hf := h68) (hd := rfl) (hr := .inr rfl), ?_⟩
            simp (maxSteps := 4000000) only [go_sem]
            refine ⟨by kernel_rfl, hK _ ?_⟩
            clear hK K
            repeat (first | refine walkL_true rfl ?_ | refine walkL_false rfl ?_ | refine walkL_seq ?_ | refine walkL_skip ?_ | refine walkL_block ?_ | (refine walkL_region fun K hK => ?_; simp (maxSteps := 4000000) only [go_sem]; refine hK _ ?_; clear hK K) | refine walkL_nil ?_ | refine walkL_ret ?_ | refine walkL_exit ?_ | refine blockA_here ?_ | refine blockA_other rfl ?_ | refine blockA_ret ?_ | refine blockA_normal ?_ | refine thenA_ret ?_ | refine thenA_exit ?_ | refine thenA_normal ?_)
            refine walkL_loopS (fun (k : Nat) => [(17, .d (.i k))]) (fun k => [(27, some (.arr 4 1 (boolRows (updI fa A k)))), (30, some (.arr 4 1 (boolRows (updI fb B k))))]) (fun k => k ≤ H) (fun k => H - k) 0 ?_ (Nat.zero_le _) ?_
            · simp (maxSteps := 4000000) only [go_sem, updI_zero]
              refine weak_of [] ?_ ?_ rfl rfl <;> simp [lessT, lessM, lessB, AV.less]
              all_goals first | done | rfl | exact ⟨rfl, rfl⟩ | (rw [updI_zero])
            · intro k hk
              have hUA := updI_len fa A k
              have hUB := updI_len fb B k
              rw [lA] at hUA
              rw [lB] at hUB
              simp (maxSteps := 4000000) only [go_sem]
              repeat (first | refine walkL_seq ?_ | refine walkL_skip ?_ | refine walkL_block ?_ | (refine walkL_region fun K hK => ?_; simp (maxSteps := 4000000) only [go_sem, boolRows_len, hUA]; refine hK _ ?_; clear hK K) | refine walkL_nil ?_ | refine walkL_ret ?_ | refine walkL_exit ?_ | refine blockA_here ?_ | refine blockA_other rfl ?_ | refine blockA_ret ?_ | refine blockA_normal ?_ | refine thenA_ret ?_ | refine thenA_exit ?_ | refine thenA_normal ?_)
              refine walkL_cond rfl (fun hb => ?_) (fun hb => ?_)
              · have hlt : k < H := by simpa using hb
                have hw : IntKind.i64.wrap ((k : Int) + 1) = ((k + 1 : Nat) : Int) := by rw [wr_small (by omega)]; simp
                obtain ⟨a, ha⟩ : ∃ a, A[k]? = some a := ⟨_, List.getElem?_eq_getElem (by omega)⟩
                obtain ⟨b, hb0⟩ : ∃ b, B[k]? = some b := ⟨_, List.getElem?_eq_getElem (by omega)⟩
                have ua := updI_get fa ha
                have ub := updI_get fb hb0
                have sa := updI_set fa ha
                have sb := updI_set fb hb0
                have ga := boolRows_at ua
                have gb := boolRows_at ub
                have hat : s[k]? = some (hourAt s (k : Int)) := by simpa using hourAt_get (l := s) (i := (k : Int)) ⟨by omega, by simp; omega⟩
                have gs1 : (boolRows (s.map (alwaysB l)))[k]? = some [.bool (alwaysB l (hourAt s (k : Int)))] := boolRows_at (by rw [List.getElem?_map, hat]; rfl)
                have gs2 : (boolRows (s.map (everB l)))[k]? = some [.bool (everB l (hourAt s (k : Int)))] := boolRows_at (by rw [List.getElem?_map, hat]; rfl)
                have ea : fa k a = (a && alwaysB l (hourAt s (k : Int))) := by rw [hfa]
                have eb : fb k b = (b || everB l (hourAt s (k : Int))) := by rw [hfb]
                obtain ⟨x, hx1⟩ : ∃ x, x = alwaysB l (hourAt s (k : Int)) := ⟨_, rfl⟩
                obtain ⟨y, hy1⟩ : ∃ y, y = everB l (hourAt s (k : Int)) := ⟨_, rfl⟩
                rw [← hx1] at gs1 ea
                rw [← hy1] at gs2 eb
                rw [ea] at sa
                rw [eb] at sb
                obtain ⟨UA, hUA0⟩ : ∃ U, U = updI fa A k := ⟨_, rfl⟩
                obtain ⟨UB, hUB0⟩ : ∃ U, U = updI fb B k := ⟨_, rfl⟩
                rw [← hUA0] at ga sa hUA ⊢
                rw [← hUB0] at gb sb hUB ⊢
                have i1 : k < UA.length := by omega
                have i2 : k < UB.length := by omega
                have sa' : (boolRows UA).set k [.bool (a && x)] = boolRows (updI fa A (k + 1)) := by rw [boolRows_set, sa]
                have sb' : (boolRows UB).set k [.bool (b || y)] = boolRows (updI fb B (k + 1)) := by rw [boolRows_set, sb]
                cases a <;> cases b
                all_goals
                  simp only [Bool.false_and, Bool.true_and, Bool.false_or, Bool.true_or] at sa' sb'
                  repeat (first | refine walkL_seq ?_ | refine walkL_skip ?_ | refine walkL_block ?_ | (refine walkL_region fun K hK => ?_; simp (maxSteps := 4000000) only [go_sem, ga, gb, gs1, gs2, i1, i2, sa', sb', hw]; refine hK _ ?_; clear hK K) | refine walkL_nil ?_ | refine walkL_ret ?_ | refine walkL_exit ?_ | refine blockA_here ?_ | refine blockA_other rfl ?_ | refine blockA_ret ?_ | refine blockA_normal ?_ | refine thenA_ret ?_ | refine thenA_exit ?_ | refine thenA_normal ?_)
                  refine ⟨rfl, k + 1, ?_, hlt, by omega⟩
                  refine weak_of [] ?_ ?_ rfl rfl <;> simp [lessT, lessM, lessB, AV.less]
                  all_goals first | done | rfl | exact ⟨rfl, rfl⟩
              · have he : H = k := by (have : ¬ k < H := by simpa using hb); omega
                subst he
                have e1 : updI fa A H = rowAll (alwaysB l) (S.take (i + 1)) H := by rw [stA, ← updI_all, lA]
                have e2 : updI fb B H = rowAny (everB l) (S.take (i + 1)) H := by rw [stB, ← updI_all, lB]
                rw [e1, e2]
                repeat (first | refine walkL_seq ?_ | refine walkL_skip ?_ | refine walkL_block ?_ | (refine walkL_region fun K hK => ?_; simp (maxSteps := 4000000) only [go_sem, hwi]; refine hK _ ?_; clear hK K) | refine walkL_nil ?_ | refine walkL_ret ?_ | refine walkL_exit ?_ | refine blockA_here ?_ | refine blockA_other rfl ?_ | refine blockA_ret ?_ | refine blockA_normal ?_ | refine thenA_ret ?_ | refine thenA_exit ?_ | refine thenA_normal ?_)
                refine ⟨rfl, i + 1, ?_, hlti, by omega⟩
                refine weak_of [] ?_ ?_ rfl rfl <;> simp [lessT, lessM, lessB, AV.less]
                all_goals first | done | rfl | exact ⟨rfl, rfl⟩
          · have he : i = S.length := by (have : ¬ i < S.length := by simpa using hb); omega
            subst he
            rw [List.take_length]
            repeat (first | refine walkL_seq ?_ | refine walkL_skip ?_ | refine walkL_block ?_ | (refine walkL_region fun K hK => ?_; simp (maxSteps := 4000000) only [go_sem]; (repeat (first | (refine ⟨_, .lent (hf := cA) (hd := rfl) (hr := rfl), ?_⟩; simp (maxSteps := 4000000) only [go_sem]) | (refine ⟨_, .lent (hf := cB) (hd := rfl) (hr := rfl), ?_⟩; simp (maxSteps := 4000000) only [go_sem]) | (refine ⟨_, .given (hf := cA) (hd := rfl) (ha := rfl), ?_⟩; simp (maxSteps := 4000000) only [go_sem]) | (refine ⟨_, .given (hf := cB) (hd := rfl) (ha := rfl), ?_⟩; simp (maxSteps := 4000000) only [go_sem]))); refine hK _ ?_; clear hK K) | refine walkL_nil ?_ | refine walkL_ret ?_ | refine walkL_exit ?_ | refine blockA_here ?_ | refine blockA_other rfl ?_ | refine blockA_ret ?_ | refine blockA_normal ?_ | refine thenA_ret ?_ | refine thenA_exit ?_ | refine thenA_normal ?_)
            simp (maxSteps := 4000000) only [go_sem, h0]
            try rfl
  · rw [if_neg h0]
    have hz : (e != 0) = true := by simpa using h0
    have e3 : spanRows [] = [] := rfl
    refine fn_walk 96 Tryz.call23 Tryz.func23 rfl (by decide) fun J => ?_
    simp (maxSteps := 4000000) only [go_sem, St.start, Tryz.ntmps23, Tryz.results23, Limits.row]
    repeat (first | refine walkL_true rfl ?_ | refine walkL_false rfl ?_ | refine walkL_seq ?_ | refine walkL_skip ?_ | refine walkL_block ?_ | (refine walkL_region fun K hK => ?_; simp (maxSteps := 4000000) only [go_sem, hz]; (repeat (first | (refine ⟨_, .lent (hf := h67) (hd := rfl) (hr := rfl), ?_⟩; simp (maxSteps := 4000000) only [go_sem, hz]) | (refine ⟨_, .given (hf := h67) (hd := rfl) (ha := rfl), ?_⟩; simp (maxSteps := 4000000) only [go_sem, hz]))); refine hK _ ?_; clear hK K) | refine walkL_nil ?_ | refine walkL_ret ?_ | refine walkL_exit ?_ | refine blockA_here ?_ | refine blockA_other rfl ?_ | refine blockA_ret ?_ | refine blockA_normal ?_ | refine thenA_ret ?_ | refine thenA_exit ?_ | refine thenA_normal ?_)
    simp (maxSteps := 4000000) only [go_sem, e3]
    try rfl
theorem begins_lt {n : Int} (hn : 1 ≤ n) : ∀ (b : List Bool) (i : Nat) (run : Int), 0 ≤ beginsFrom n b i run → beginsFrom n b i run < i + b.length
  | [], i, run => by
    rw [beginsFrom]
    intro h
    omega
  | x :: b, i, run => by
    rw [beginsFrom, List.length_cons]
    generalize (if x then run + 1 else 0) = r
    have := begins_lt hn b (i + 1) r
    by_cases h : r = n
    · rw [if_pos h]; omega
    · rw [if_neg h]; omega
theorem begins_lowW {n : Int} (hn : 1 ≤ n) : ∀ (b : List Bool) (i : Nat) (run : Int), run < i + 1 → 0 ≤ run → -1 ≤ beginsFrom n b i run
  | [], i, run, _, _ => by rw [beginsFrom]; omega
  | x :: b, i, run, h1, h2 => by
    rw [beginsFrom]
    have hr : (if x then run + 1 else 0) < (i : Int) + 2 ∧ 0 ≤ (if x then run + 1 else 0) := by split <;> omega
    generalize (if x then run + 1 else 0) = r at hr
    by_cases h : r = n
    · rw [if_pos h]; omega
    · rw [if_neg h]
      exact begins_lowW hn b (i + 1) r (by push_cast; omega) hr.2
theorem first_step {H a x : Int} (h1 : 0 ≤ a ∧ a ≤ H) (h2 : -1 ≤ x ∧ x < H) :
    (if (if decide (x ≥ 0) then min a x else a) = H then (-1 : Int) else (if decide (x ≥ 0) then min a x else a)) =
      if (decide (x ≥ 0) && (decide ((if a = H then (-1 : Int) else a) < 0) || decide (x < (if a = H then (-1 : Int) else a)))) = true then x else (if a = H then (-1 : Int) else a) := by
  simp only [Bool.and_eq_true, Bool.or_eq_true, decide_eq_true_eq]
  by_cases hx0 : x ≥ 0
  · simp only [hx0, if_true, true_and]
    by_cases ha : a = H
    · simp only [ha, if_true]
      rw [if_neg (by omega), if_pos (.inl (by decide))]
      omega
    · simp only [ha, if_false]
      rw [if_neg (by omega)]
      by_cases hxa : x < a
      · rw [if_pos (.inr hxa)]; omega
      · rw [if_neg (by omega)]; omega
  · simp only [hx0, if_false, false_and]
theorem f25 (F : List (List Hour)) (seen : List Sight) (l : Limits) (n : Int) (hs : ForeSmall F) (hsl : seen.length < 2 ^ 30) :
    Fn Tryz.prog 25 [.agg [.sl (scenRows F)], .sl (sightRows seen), .agg l.row, .i n] (.tup [.i (windowF F seen l n).1, .i (windowF F seen l n).2.1, .i (windowF F seen l n).2.2]) := by
  have h67 := f67 F seen l (withinB n 1 48) hs hsl
  have h72 := f72 n 1 48
  obtain ⟨w, hw0⟩ : ∃ w, w = withinB n 1 48 := ⟨_, rfl⟩
  unfold windowF
  rw [← hw0] at h67 h72 ⊢
  obtain ⟨e, he⟩ : ∃ e, e = lookF F seen (limE l) w := ⟨_, rfl⟩
  rw [← he] at h67 ⊢
  rw [Limits.row] at h67
  by_cases h0 : e = 0
  · rw [if_pos h0]
    have hz : (e != 0) = false := by simp [h0]
    rw [h0] at he
    obtain ⟨hg, hsi, hne, hlim, hwt⟩ := look_all he.symm
    rw [hwt] at hw0
    have hn := within_iff.1 hw0.symm
    have hlb : limB l = true := by
      unfold limE at hlim
      split at hlim
      · assumption
      · cases hlim
    have hp := poss_of he.symm hlb
    have h57 := f57 F seen hg hsi
    obtain ⟨N, hN⟩ : ∃ N, N = numsOf (possL F seen) := ⟨_, rfl⟩
    obtain ⟨S, hS⟩ : ∃ S, S = scensOf (possL F seen) := ⟨_, rfl⟩
    obtain ⟨H, hHe⟩ : ∃ H, H = (hd0 F).length := ⟨_, rfl⟩
    rw [← hN, ← hS, ← hHe] at hp
    rw [← hS, ← hHe]
    rw [← hN] at h57
    have hlen := hp.len
    have hfew := hp.few
    have hH := hp.hours
    -- what the program's way of reckoning says of the document's
    have bnd : ∀ s ∈ S, ∀ q : Hour → Bool, -1 ≤ beginsF (s.map q) n ∧ beginsF (s.map q) n < (H : Int) := fun s hs q => by
      have hsH := hp.all s hs
      have h1 := begins_lt (n := n) (by omega) (s.map q) 0 0
      have h2 := begins_lowW (n := n) (by omega) (s.map q) 0 0 (by decide) (by decide)
      rw [List.length_map, hsH] at h1
      unfold beginsF
      refine ⟨h2, ?_⟩
      by_cases h : 0 ≤ beginsFrom n (s.map q) 0 0
      · have := h1 h; omega
      · omega
    have fst : ∀ i, i ≤ S.length → 0 ≤ winFirst l n (S.take i) H ∧ winFirst l n (S.take i) H ≤ H := by
      intro i
      induction i with
      | zero => intro _; simp [winFirst]
      | succ i ih =>
        intro hi
        obtain ⟨s, hx⟩ : ∃ s, S[i]? = some s := ⟨_, List.getElem?_eq_getElem (by omega)⟩
        have e1 : winFirst l n (S.take (i + 1)) H = if decide (beginsF (s.map (everB l)) n ≥ 0) then min (winFirst l n (S.take i) H) (beginsF (s.map (everB l)) n) else winFirst l n (S.take i) H := foldl_take_succ _ _ _ _ _ hx
        have := ih (by omega)
        rw [e1]
        split
        · rename_i hd
          have := of_decide_eq_true hd
          omega
        · omega
    obtain ⟨fr, hfr⟩ : ∃ fr : Nat → Int, fr = fun i => if winFirst l n (S.take i) H = H then -1 else winFirst l n (S.take i) H := ⟨_, rfl⟩
    have fr0 : fr 0 = -1 := by rw [hfr]; simp [winFirst]
    have frs : ∀ i s, S[i]? = some s → fr (i + 1) = if (decide (beginsF (s.map (everB l)) n ≥ 0) && (decide (fr i < 0) || decide (beginsF (s.map (everB l)) n < fr i))) = true then beginsF (s.map (everB l)) n else fr i := fun i s hx => by
      have e1 : winFirst l n (S.take (i + 1)) H = if decide (beginsF (s.map (everB l)) n ≥ 0) then min (winFirst l n (S.take i) H) (beginsF (s.map (everB l)) n) else winFirst l n (S.take i) H := foldl_take_succ _ _ _ _ _ hx
      have hi := (List.getElem?_eq_some_iff.1 hx).1
      have h1 := fst i (by omega)
      have h2 := bnd s (List.mem_of_getElem? hx) (everB l)
      rw [hfr]
      dsimp only
      rw [e1]
      exact first_step h1 h2
    have frH : (if winFirst l n S H = H then (-1 : Int) else winFirst l n S H) = fr S.length := by rw [hfr]; dsimp only; rw [List.take_length]
    obtain ⟨la, hla⟩ : ∃ la : Nat → Int, la = fun i => (S.take i).foldl (fun a s => max a (beginsF (s.map (alwaysB l)) n)) 0 := ⟨_, rfl⟩
    have la0 : la 0 = 0 := by rw [hla]; rfl
    have las : ∀ i s, S[i]? = some s → la (i + 1) = max (la i) (beginsF (s.map (alwaysB l)) n) := fun i s hx => by
      rw [hla]; exact foldl_take_succ _ _ _ _ _ hx
    have lag : winNever l n S = false → winLast l n S = la S.length := fun hnv => by
      have key : ∀ i, i ≤ S.length → la i = max 0 (winLast l n (S.take i)) := by
        intro i
        induction i with
        | zero => intro _; rw [la0]; rfl
        | succ i ih =>
          intro hi
          obtain ⟨s, hx⟩ : ∃ s, S[i]? = some s := ⟨_, List.getElem?_eq_getElem (by omega)⟩
          have e1 : winLast l n (S.take (i + 1)) = max (winLast l n (S.take i)) (beginsF (s.map (alwaysB l)) n) := foldl_take_succ _ _ _ _ _ hx
          rw [las i s hx, e1, ih (by omega)]
          omega
      have := key S.length (Nat.le_refl _)
      rw [List.take_length] at this
      rw [this]
      obtain ⟨s, hx⟩ : ∃ s, S[S.length - 1]? = some s := ⟨_, List.getElem?_eq_getElem (by have := hp.pos; omega)⟩
      have e1 : winLast l n (S.take (S.length - 1 + 1)) = max (winLast l n (S.take (S.length - 1))) (beginsF (s.map (alwaysB l)) n) := foldl_take_succ _ _ _ _ _ hx
      rw [show S.length - 1 + 1 = S.length by have := hp.pos; omega, List.take_length] at e1
      have : 0 ≤ beginsF (s.map (alwaysB l)) n := by
        unfold winNever at hnv
        rw [List.any_eq_false] at hnv
        have := hnv s (List.mem_of_getElem? hx)
        simp at this
        exact this
      rw [e1]
      omega
    have wv : (if winNever l n S = true then (-1 : Int) else winLast l n S) = if winNever l n S = true then (-1 : Int) else la S.length := by
      cases hnv : winNever l n S
      · simp only [Bool.false_eq_true, if_false]; exact lag hnv
      · rfl
    rw [frH, wv]
    have nv0 : winNever l n (S.take 0) = false := rfl
    have nvs : ∀ i s, S[i]? = some s → winNever l n (S.take (i + 1)) = (winNever l n (S.take i) || decide (beginsF (s.map (alwaysB l)) n < 0)) := fun i s hx => by
      unfold winNever; rw [List.take_add_one, hx]; simp
    clear wv lag frH fst
    refine fn_walk 77 Tryz.call25 Tryz.func25 rfl (by decide) fun J => ?_
    simp (maxSteps := 4000000) only [go_sem, St.start, Tryz.ntmps25, Tryz.results25, Limits.row]
    repeat (first | refine walkL_seq ?_ | refine walkL_skip ?_ | refine walkL_block ?_ | (refine walkL_region fun K hK => ?_; simp (maxSteps := 4000000) only [go_sem]; refine hK _ ?_; clear hK K) | refine walkL_nil ?_ | refine walkL_ret ?_ | refine walkL_exit ?_ | refine blockA_here ?_ | refine blockA_other rfl ?_ | refine blockA_ret ?_ | refine blockA_normal ?_ | refine thenA_ret ?_ | refine thenA_exit ?_ | refine thenA_normal ?_)
    refine walkL_drawn (by kernel_rfl) (by kernel_rfl) fun K hK => ?_
    simp (maxSteps := 4000000) only [go_sem]
    refine ⟨_, .fn (hf := h72) (hd := rfl) (hr := .inl rfl), ?_⟩
    simp (maxSteps := 4000000) only [go_sem]
    refine ⟨_, .fn (hf := h67) (hd := rfl) (hr := .inr rfl), ?_⟩
    simp (maxSteps := 4000000) only [go_sem]
    refine ⟨by kernel_rfl, hK _ ?_⟩
    clear hK K
    repeat (first | refine walkL_true rfl ?_ | refine walkL_false rfl ?_ | refine walkL_seq ?_ | refine walkL_skip ?_ | refine walkL_block ?_ | (refine walkL_region fun K hK => ?_; simp (maxSteps := 4000000) only [go_sem, hz]; (repeat (first | (refine ⟨_, .lent (hf := h57) (hd := rfl) (hr := rfl), ?_⟩; simp (maxSteps := 4000000) only [go_sem, hz]) | (refine ⟨_, .given (hf := h57) (hd := rfl) (ha := rfl), ?_⟩; simp (maxSteps := 4000000) only [go_sem, hz]))); refine hK _ ?_; clear hK K) | refine walkL_nil ?_ | refine walkL_ret ?_ | refine walkL_exit ?_ | refine blockA_here ?_ | refine blockA_other rfl ?_ | refine blockA_ret ?_ | refine blockA_normal ?_ | refine thenA_ret ?_ | refine thenA_exit ?_ | refine thenA_normal ?_)
    refine walkL_loopS (fun (i : Nat) => [(14, .d (.i i)), (8, .d (.i (fr i))), (9, .d (.i (la i))), (12, .d (.bool (winNever l n (S.take i)))), (15, .undef), (16, .undef), (17, .undef), (18, .undef)]) (fun _ => []) (fun i => i ≤ S.length) (fun i => S.length - i) 0 ?_ (Nat.zero_le _) ?_
    · simp (maxSteps := 4000000) only [go_sem, fr0, la0, nv0]
      refine weak_of [] ?_ ?_ rfl rfl <;> simp [lessT, lessM, lessB, AV.less]
      all_goals first | done | rfl | exact ⟨rfl, rfl⟩ | exact ⟨rfl, rfl, rfl⟩ | simp [fr0, la0, nv0]
    · intro i hi
      have wN : (N.length : Int) = (S.length : Int) := by omega
      simp (maxSteps := 4000000) only [go_sem]
      repeat (first | refine walkL_seq ?_ | refine walkL_skip ?_ | refine walkL_block ?_ | (refine walkL_region fun K hK => ?_; simp (maxSteps := 4000000) only [go_sem, intRows_len, wN]; refine hK _ ?_; clear hK K) | refine walkL_nil ?_ | refine walkL_ret ?_ | refine walkL_exit ?_ | refine blockA_here ?_ | refine blockA_other rfl ?_ | refine blockA_ret ?_ | refine blockA_normal ?_ | refine thenA_ret ?_ | refine thenA_exit ?_ | refine thenA_normal ?_)
      refine walkL_cond rfl (fun hb => ?_) (fun hb => ?_)
      · have hlt : i < S.length := by simpa using hb
        have hw : IntKind.i64.wrap ((i : Int) + 1) = ((i + 1 : Nat) : Int) := by rw [wr_small (by omega)]; simp
        obtain ⟨s, hx⟩ : ∃ s, S[i]? = some s := ⟨_, List.getElem?_eq_getElem hlt⟩
        obtain ⟨k, hk, hk0, h68⟩ := hp.get i s hx
        have hsH := hp.all s (List.mem_of_getElem? hx)
        have gk := intRows_at hk
        rw [Limits.row] at h68
        have c1 := f73 (s.map (everB l)) n ⟨by omega, by omega⟩ (by simp; omega)
        have c2 := f73 (s.map (alwaysB l)) n ⟨by omega, by omega⟩ (by simp; omega)
        have n1 := frs i s hx
        have n2 := las i s hx
        have n3 := nvs i s hx
        obtain ⟨x, hx1⟩ : ∃ x, x = beginsF (s.map (everB l)) n := ⟨_, rfl⟩
        obtain ⟨y, hy1⟩ : ∃ y, y = beginsF (s.map (alwaysB l)) n := ⟨_, rfl⟩
        rw [← hx1] at c1 n1
        rw [← hy1] at c2 n2 n3
        obtain ⟨a, ha⟩ : ∃ a, a = fr i := ⟨_, rfl⟩
        obtain ⟨b, hb0⟩ : ∃ b, b = la i := ⟨_, rfl⟩
        obtain ⟨c, hc0⟩ : ∃ c, c = winNever l n (S.take i) := ⟨_, rfl⟩
        rw [← ha] at n1 ⊢
        rw [← hb0] at n2 ⊢
        rw [← hc0] at n3 ⊢
        cases qx : decide (x ≥ 0) <;> cases qa : decide (a < 0) <;> cases qxa : decide (x < a) <;> cases c
        all_goals
          rw [qx, qa, qxa] at n1
          simp only [Bool.false_or, Bool.true_or, Bool.false_and, Bool.true_and, Bool.false_eq_true, if_false, if_true] at n1 n3
          repeat (first | refine walkL_seq ?_ | refine walkL_skip ?_ | refine walkL_block ?_ | (refine walkL_region fun K hK => ?_; simp (maxSteps := 4000000) only [go_sem]; refine hK _ ?_; clear hK K) | refine walkL_nil ?_ | refine walkL_ret ?_ | refine walkL_exit ?_ | refine blockA_here ?_ | refine blockA_other rfl ?_ | refine blockA_ret ?_ | refine blockA_normal ?_ | refine thenA_ret ?_ | refine thenA_exit ?_ | refine thenA_normal ?_)
          refine walkL_drawn (by kernel_rfl) (by kernel_rfl) fun K hK => ?_
          simp (maxSteps := 4000000) only [go_sem, gk]
          refine ⟨_, .fn (hf := h68) (hd := rfl) (hr := .inr rfl), ?_⟩
          simp (maxSteps := 4000000) only [go_sem]
          refine ⟨by kernel_rfl, hK _ ?_⟩
          clear hK K
          repeat (first | refine walkL_true rfl ?_ | refine walkL_false rfl ?_ | refine walkL_seq ?_ | refine walkL_skip ?_ | refine walkL_block ?_ | (refine walkL_region fun K hK => ?_; simp (maxSteps := 4000000) only [go_sem, qx, qa, qxa, hw]; (repeat (first | (refine ⟨_, .lent (hf := c1) (hd := rfl) (hr := rfl), ?_⟩; simp (maxSteps := 4000000) only [go_sem, qx, qa, qxa, hw]) | (refine ⟨_, .lent (hf := c2) (hd := rfl) (hr := rfl), ?_⟩; simp (maxSteps := 4000000) only [go_sem, qx, qa, qxa, hw]) | (refine ⟨_, .given (hf := c1) (hd := rfl) (ha := rfl), ?_⟩; simp (maxSteps := 4000000) only [go_sem, qx, qa, qxa, hw]) | (refine ⟨_, .given (hf := c2) (hd := rfl) (ha := rfl), ?_⟩; simp (maxSteps := 4000000) only [go_sem, qx, qa, qxa, hw]))); refine hK _ ?_; clear hK K) | refine walkL_nil ?_ | refine walkL_ret ?_ | refine walkL_exit ?_ | refine blockA_here ?_ | refine blockA_other rfl ?_ | refine blockA_ret ?_ | refine blockA_normal ?_ | refine thenA_ret ?_ | refine thenA_exit ?_ | refine thenA_normal ?_)
          refine ⟨rfl, i + 1, ?_, hlt, by omega⟩
          rw [n1, n2, n3]
          refine weak_of [] ?_ ?_ rfl rfl <;> simp [lessT, lessM, lessB, AV.less]
          all_goals first | done | rfl | exact ⟨rfl, rfl⟩ | exact ⟨rfl, rfl, rfl⟩
      · have he : i = S.length := by (have : ¬ i < S.length := by simpa using hb); omega
        subst he
        rw [List.take_length]
        obtain ⟨a, ha⟩ : ∃ a, a = fr S.length := ⟨_, rfl⟩
        obtain ⟨b, hb0⟩ : ∃ b, b = la S.length := ⟨_, rfl⟩
        obtain ⟨c, hc0⟩ : ∃ c, c = winNever l n S := ⟨_, rfl⟩
        rw [← ha, ← hb0, ← hc0]
        cases c
        all_goals
          repeat (first | refine walkL_true rfl ?_ | refine walkL_false rfl ?_ | refine walkL_seq ?_ | refine walkL_skip ?_ | refine walkL_block ?_ | (refine walkL_region fun K hK => ?_; simp (maxSteps := 4000000) only [go_sem]; refine hK _ ?_; clear hK K) | refine walkL_nil ?_ | refine walkL_ret ?_ | refine walkL_exit ?_ | refine blockA_here ?_ | refine blockA_other rfl ?_ | refine blockA_ret ?_ | refine blockA_normal ?_ | refine thenA_ret ?_ | refine thenA_exit ?_ | refine thenA_normal ?_)
          simp (maxSteps := 4000000) only [go_sem, h0, Bool.false_eq_true, if_false, if_true]
          try rfl
  · rw [if_neg h0]
    have hz : (e != 0) = true := by simpa using h0
    refine fn_walk 77 Tryz.call25 Tryz.func25 rfl (by decide) fun J => ?_
    simp (maxSteps := 4000000) only [go_sem, St.start, Tryz.ntmps25, Tryz.results25, Limits.row]
    repeat (first | refine walkL_seq ?_ | refine walkL_skip ?_ | refine walkL_block ?_ | (refine walkL_region fun K hK => ?_; simp (maxSteps := 4000000) only [go_sem]; refine hK _ ?_; clear hK K) | refine walkL_nil ?_ | refine walkL_ret ?_ | refine walkL_exit ?_ | refine blockA_here ?_ | refine blockA_other rfl ?_ | refine blockA_ret ?_ | refine blockA_normal ?_ | refine thenA_ret ?_ | refine thenA_exit ?_ | refine thenA_normal ?_)
    refine walkL_drawn (by kernel_rfl) (by kernel_rfl) fun K hK => ?_
    simp (maxSteps := 4000000) only [go_sem]
    refine ⟨_, .fn (hf := h72) (hd := rfl) (hr := .inl rfl), ?_⟩
    simp (maxSteps := 4000000) only [go_sem]
    refine ⟨_, .fn (hf := h67) (hd := rfl) (hr := .inr rfl), ?_⟩
    simp (maxSteps := 4000000) only [go_sem]
    refine ⟨by kernel_rfl, hK _ ?_⟩
    clear hK K
    repeat (first | refine walkL_true rfl ?_ | refine walkL_false rfl ?_ | refine walkL_seq ?_ | refine walkL_skip ?_ | refine walkL_block ?_ | (refine walkL_region fun K hK => ?_; simp (maxSteps := 4000000) only [go_sem, hz]; refine hK _ ?_; clear hK K) | refine walkL_nil ?_ | refine walkL_ret ?_ | refine walkL_exit ?_ | refine blockA_here ?_ | refine blockA_other rfl ?_ | refine blockA_ret ?_ | refine blockA_normal ?_ | refine thenA_ret ?_ | refine thenA_exit ?_ | refine thenA_normal ?_)
    simp (maxSteps := 4000000) only [go_sem]
    try rfl
theorem gapTo_max (b : List Bool) (n : Int) : ∀ (k : Nat) (g : Int), 0 ≤ g → gapTo b n k g = max g (gapTo b n k 0)
  | 0, g, h => by rw [gapTo, gapTo]; omega
  | k + 1, g, h => by
    rw [gapTo, gapTo, gapTo_max b n k g h]
    omega
theorem f27 (F : List (List Hour)) (seen : List Sight) (l : Limits) (n : Int) (hs : ForeSmall F) (hsl : seen.length < 2 ^ 30) :
    Fn Tryz.prog 27 [.agg [.sl (scenRows F)], .sl (sightRows seen), .agg l.row, .i n] (.tup [.i (gapF F seen l n).1, .i (gapF F seen l n).2]) := by
  have h67 := f67 F seen l (withinB n 1 48) hs hsl
  have h72 := f72 n 1 48
  obtain ⟨w, hw0⟩ : ∃ w, w = withinB n 1 48 := ⟨_, rfl⟩
  unfold gapF
  rw [← hw0] at h67 h72 ⊢
  obtain ⟨e, he⟩ : ∃ e, e = lookF F seen (limE l) w := ⟨_, rfl⟩
  rw [← he] at h67 ⊢
  rw [Limits.row] at h67
  by_cases h0 : e = 0
  · rw [if_pos h0]
    have hz : (e != 0) = false := by simp [h0]
    rw [h0] at he
    obtain ⟨hg, hsi, hne, hlim, hwt⟩ := look_all he.symm
    rw [hwt] at hw0
    have hn := within_iff.1 hw0.symm
    have hlb : limB l = true := by
      unfold limE at hlim
      split at hlim
      · assumption
      · cases hlim
    have hp := poss_of he.symm hlb
    have h57 := f57 F seen hg hsi
    obtain ⟨N, hN⟩ : ∃ N, N = numsOf (possL F seen) := ⟨_, rfl⟩
    obtain ⟨S, hS⟩ : ∃ S, S = scensOf (possL F seen) := ⟨_, rfl⟩
    obtain ⟨H, hHe⟩ : ∃ H, H = (hd0 F).length := ⟨_, rfl⟩
    rw [← hN, ← hS, ← hHe] at hp
    rw [← hS]
    rw [← hN] at h57
    have hlen := hp.len
    have hfew := hp.few
    have hH := hp.hours
    have gs : ∀ i s, S[i]? = some s → gapS l n (S.take (i + 1)) = gapTo (s.map (alwaysB l)) n s.length (gapS l n (S.take i)) := fun i s hx => foldl_take_succ _ _ _ _ _ hx
    have g0 : ∀ i, i ≤ S.length → 0 ≤ gapS l n (S.take i) := by
      intro i
      induction i with
      | zero => intro _; simp [gapS]
      | succ i ih =>
        intro hi
        obtain ⟨s, hx⟩ : ∃ s, S[i]? = some s := ⟨_, List.getElem?_eq_getElem (by omega)⟩
        have := ih (by omega)
        rw [gs i s hx, gapTo_max _ _ _ _ this]
        omega
    refine fn_walk 51 Tryz.call27 Tryz.func27 rfl (by decide) fun J => ?_
    simp (maxSteps := 4000000) only [go_sem, St.start, Tryz.ntmps27, Tryz.results27, Limits.row]
    repeat (first | refine walkL_seq ?_ | refine walkL_skip ?_ | refine walkL_block ?_ | (refine walkL_region fun K hK => ?_; simp (maxSteps := 4000000) only [go_sem]; refine hK _ ?_; clear hK K) | refine walkL_nil ?_ | refine walkL_ret ?_ | refine walkL_exit ?_ | refine blockA_here ?_ | refine blockA_other rfl ?_ | refine blockA_ret ?_ | refine blockA_normal ?_ | refine thenA_ret ?_ | refine thenA_exit ?_ | refine thenA_normal ?_)
    refine walkL_drawn (by kernel_rfl) (by kernel_rfl) fun K hK => ?_
    simp (maxSteps := 4000000) only [go_sem]
    refine ⟨_, .fn (hf := h72) (hd := rfl) (hr := .inl rfl), ?_⟩
    simp (maxSteps := 4000000) only [go_sem]
    refine ⟨_, .fn (hf := h67) (hd := rfl) (hr := .inr rfl), ?_⟩
    simp (maxSteps := 4000000) only [go_sem]
    refine ⟨by kernel_rfl, hK _ ?_⟩
    clear hK K
    repeat (first | refine walkL_true rfl ?_ | refine walkL_false rfl ?_ | refine walkL_seq ?_ | refine walkL_skip ?_ | refine walkL_block ?_ | (refine walkL_region fun K hK => ?_; simp (maxSteps := 4000000) only [go_sem, hz]; (repeat (first | (refine ⟨_, .lent (hf := h57) (hd := rfl) (hr := rfl), ?_⟩; simp (maxSteps := 4000000) only [go_sem, hz]) | (refine ⟨_, .given (hf := h57) (hd := rfl) (ha := rfl), ?_⟩; simp (maxSteps := 4000000) only [go_sem, hz]))); refine hK _ ?_; clear hK K) | refine walkL_nil ?_ | refine walkL_ret ?_ | refine walkL_exit ?_ | refine blockA_here ?_ | refine blockA_other rfl ?_ | refine blockA_ret ?_ | refine blockA_normal ?_ | refine thenA_ret ?_ | refine thenA_exit ?_ | refine thenA_normal ?_)
    refine walkL_loopS (fun (i : Nat) => [(13, .d (.i i)), (11, .d (.i (gapS l n (S.take i)))), (14, .undef), (15, .undef)]) (fun _ => []) (fun i => i ≤ S.length) (fun i => S.length - i) 0 ?_ (Nat.zero_le _) ?_
    · simp (maxSteps := 4000000) only [go_sem]
      refine weak_of [] ?_ ?_ rfl rfl <;> simp [lessT, lessM, lessB, AV.less]
      all_goals first | done | rfl | exact ⟨rfl, rfl⟩
    · intro i hi
      have wN : (N.length : Int) = (S.length : Int) := by omega
      have gi := g0 i hi
      simp (maxSteps := 4000000) only [go_sem]
      repeat (first | refine walkL_seq ?_ | refine walkL_skip ?_ | refine walkL_block ?_ | (refine walkL_region fun K hK => ?_; simp (maxSteps := 4000000) only [go_sem, intRows_len, wN]; refine hK _ ?_; clear hK K) | refine walkL_nil ?_ | refine walkL_ret ?_ | refine walkL_exit ?_ | refine blockA_here ?_ | refine blockA_other rfl ?_ | refine blockA_ret ?_ | refine blockA_normal ?_ | refine thenA_ret ?_ | refine thenA_exit ?_ | refine thenA_normal ?_)
      refine walkL_cond rfl (fun hb => ?_) (fun hb => ?_)
      · have hlt : i < S.length := by simpa using hb
        have hw : IntKind.i64.wrap ((i : Int) + 1) = ((i + 1 : Nat) : Int) := by rw [wr_small (by omega)]; simp
        obtain ⟨s, hx⟩ : ∃ s, S[i]? = some s := ⟨_, List.getElem?_eq_getElem hlt⟩
        obtain ⟨k, hk, hk0, h68⟩ := hp.get i s hx
        have hsH := hp.all s (List.mem_of_getElem? hx)
        have gk := intRows_at hk
        rw [Limits.row] at h68
        have c2 := f74 (s.map (alwaysB l)) n ⟨by omega, by omega⟩ (by simp; omega)
        rw [List.length_map] at c2
        have n1 := gs i s hx
        rw [gapTo_max _ _ _ _ gi] at n1
        obtain ⟨y, hy1⟩ : ∃ y, y = gapTo (s.map (alwaysB l)) n s.length 0 := ⟨_, rfl⟩
        rw [← hy1] at c2 n1
        obtain ⟨b, hb0⟩ : ∃ b, b = gapS l n (S.take i) := ⟨_, rfl⟩
        rw [← hb0] at n1 ⊢
        repeat (first | refine walkL_seq ?_ | refine walkL_skip ?_ | refine walkL_block ?_ | (refine walkL_region fun K hK => ?_; simp (maxSteps := 4000000) only [go_sem]; refine hK _ ?_; clear hK K) | refine walkL_nil ?_ | refine walkL_ret ?_ | refine walkL_exit ?_ | refine blockA_here ?_ | refine blockA_other rfl ?_ | refine blockA_ret ?_ | refine blockA_normal ?_ | refine thenA_ret ?_ | refine thenA_exit ?_ | refine thenA_normal ?_)
        refine walkL_drawn (by kernel_rfl) (by kernel_rfl) fun K hK => ?_
        simp (maxSteps := 4000000) only [go_sem, gk]
        refine ⟨_, .fn (hf := h68) (hd := rfl) (hr := .inr rfl), ?_⟩
        simp (maxSteps := 4000000) only [go_sem]
        refine ⟨by kernel_rfl, hK _ ?_⟩
        clear hK K
        repeat (first | refine walkL_true rfl ?_ | refine walkL_false rfl ?_ | refine walkL_seq ?_ | refine walkL_skip ?_ | refine walkL_block ?_ | (refine walkL_region fun K hK => ?_; simp (maxSteps := 4000000) only [go_sem, hw]; (repeat (first | (refine ⟨_, .lent (hf := c2) (hd := rfl) (hr := rfl), ?_⟩; simp (maxSteps := 4000000) only [go_sem, hw]) | (refine ⟨_, .given (hf := c2) (hd := rfl) (ha := rfl), ?_⟩; simp (maxSteps := 4000000) only [go_sem, hw]))); refine hK _ ?_; clear hK K) | refine walkL_nil ?_ | refine walkL_ret ?_ | refine walkL_exit ?_ | refine blockA_here ?_ | refine blockA_other rfl ?_ | refine blockA_ret ?_ | refine blockA_normal ?_ | refine thenA_ret ?_ | refine thenA_exit ?_ | refine thenA_normal ?_)
        refine ⟨rfl, i + 1, ?_, hlt, by omega⟩
        rw [n1]
        refine weak_of [] ?_ ?_ rfl rfl <;> simp [lessT, lessM, lessB, AV.less]
        all_goals first | done | rfl | exact ⟨rfl, rfl⟩
      · have he : i = S.length := by (have : ¬ i < S.length := by simpa using hb); omega
        subst he
        rw [List.take_length]
        repeat (first | refine walkL_true rfl ?_ | refine walkL_false rfl ?_ | refine walkL_seq ?_ | refine walkL_skip ?_ | refine walkL_block ?_ | (refine walkL_region fun K hK => ?_; simp (maxSteps := 4000000) only [go_sem]; refine hK _ ?_; clear hK K) | refine walkL_nil ?_ | refine walkL_ret ?_ | refine walkL_exit ?_ | refine blockA_here ?_ | refine blockA_other rfl ?_ | refine blockA_ret ?_ | refine blockA_normal ?_ | refine thenA_ret ?_ | refine thenA_exit ?_ | refine thenA_normal ?_)
        simp (maxSteps := 4000000) only [go_sem, h0]
        try rfl
  · rw [if_neg h0]
    have hz : (e != 0) = true := by simpa using h0
    refine fn_walk 51 Tryz.call27 Tryz.func27 rfl (by decide) fun J => ?_
    simp (maxSteps := 4000000) only [go_sem, St.start, Tryz.ntmps27, Tryz.results27, Limits.row]
    repeat (first | refine walkL_seq ?_ | refine walkL_skip ?_ | refine walkL_block ?_ | (refine walkL_region fun K hK => ?_; simp (maxSteps := 4000000) only [go_sem]; refine hK _ ?_; clear hK K) | refine walkL_nil ?_ | refine walkL_ret ?_ | refine walkL_exit ?_ | refine blockA_here ?_ | refine blockA_other rfl ?_ | refine blockA_ret ?_ | refine blockA_normal ?_ | refine thenA_ret ?_ | refine thenA_exit ?_ | refine thenA_normal ?_)
    refine walkL_drawn (by kernel_rfl) (by kernel_rfl) fun K hK => ?_
    simp (maxSteps := 4000000) only [go_sem]
    refine ⟨_, .fn (hf := h72) (hd := rfl) (hr := .inl rfl), ?_⟩
    simp (maxSteps := 4000000) only [go_sem]
    refine ⟨_, .fn (hf := h67) (hd := rfl) (hr := .inr rfl), ?_⟩
    simp (maxSteps := 4000000) only [go_sem]
    refine ⟨by kernel_rfl, hK _ ?_⟩
    clear hK K
    repeat (first | refine walkL_true rfl ?_ | refine walkL_false rfl ?_ | refine walkL_seq ?_ | refine walkL_skip ?_ | refine walkL_block ?_ | (refine walkL_region fun K hK => ?_; simp (maxSteps := 4000000) only [go_sem, hz]; refine hK _ ?_; clear hK K) | refine walkL_nil ?_ | refine walkL_ret ?_ | refine walkL_exit ?_ | refine blockA_here ?_ | refine blockA_other rfl ?_ | refine blockA_ret ?_ | refine blockA_normal ?_ | refine thenA_ret ?_ | refine thenA_exit ?_ | refine thenA_normal ?_)
    simp (maxSteps := 4000000) only [go_sem]
    try rfl
end Go.Ab
namespace Go.Ab
open Go.RowKit Go.Proofs
set_option maxHeartbeats 16000000
set_option maxRecDepth 20000
attribute [local irreducible] WalkL Walk
theorem keeps_short (F : List (List Hour)) (seen : List Sight) (l : Limits) (hs : ForeSmall F) : (keepsF F seen l).1.length < 2 ^ 30 ∧ (keepsF F seen l).2.1.length < 2 ^ 30 := by
  unfold keepsF
  split
  · rename_i h0
    obtain ⟨hg, _⟩ := look_all h0
    have hH := hg.hours
    have := fun q => spansQ_len q (hd0 F).length
    constructor
    · exact Nat.lt_of_le_of_lt (this _) (by omega)
    · exact Nat.lt_of_le_of_lt (this _) (by omega)
  · simp
theorem f5 (F : List (List Hour)) (seen : List Sight) (x : QueryX) (hs : ForeSmall F) (hsl : seen.length < 2 ^ 30) : Fn Tryz.prog 5 [.agg [.sl (scenRows F)], .sl (sightRows seen), .agg x.cells] (.bool true) := by
  have h7 := f7 F seen hs
  have h9 := f9
  cases q : far5 F seen
  · rw [q] at h7
    have h10 := f10 F hs
    have h22 := f22 F seen x.lim hs hsl
    have h23 := f23 F seen x.lim hs hsl
    have h24 := f24 F seen x.lim x.len hs hsl
    have h25 := f25 F seen x.lim x.len hs hsl
    have h26 := f26 F seen x.lim x.len hs hsl
    have h27 := f27 F seen x.lim x.len hs hsl
    have h1 : seen.length ≤ 549755813888 := by omega
    have h2 : 0 + seen.length ≤ 549755813888 := by omega
    obtain ⟨l1, l2⟩ := keeps_short F seen x.lim hs
    obtain ⟨K, hK⟩ : ∃ K, K = keepsF F seen x.lim := ⟨_, rfl⟩
    obtain ⟨M, hM⟩ : ∃ M, M = windowF F seen x.lim x.len := ⟨_, rfl⟩
    obtain ⟨G, hG⟩ : ∃ G, G = gapF F seen x.lim x.len := ⟨_, rfl⟩
    rw [← hK] at h22 h23 l1 l2
    rw [← hM] at h24 h25
    rw [← hG] at h26 h27
    obtain ⟨a, b, c⟩ := K
    obtain ⟨m, n, d⟩ := M
    obtain ⟨g, e⟩ := G
    dsimp only at h22 h23 h24 h25 h26 h27 l1 l2
    have ca := f14 a l1
    have cb := f14 b l2
    rw [Limits.row] at h22 h23 h24 h25 h26 h27
    have n1 : ∀ z : Int, (z != z) = false := fun z => by simp
    have n2 : ∀ z : Int, (z == z) = true := fun z => by simp
    refine fn_walk 127 Tryz.call5 Tryz.func5 rfl (by decide) fun J => ?_
    simp (maxSteps := 4000000) only [go_sem, St.start, Tryz.ntmps5, Tryz.results5, QueryX.cells]
    repeat (first | refine walkL_true rfl ?_ | refine walkL_false rfl ?_ | refine walkL_seq ?_ | refine walkL_skip ?_ | refine walkL_block ?_ | (refine walkL_region fun K hK => ?_; simp (maxSteps := 4000000) only [go_sem, n1, n2, h1, h2, List.nil_append, List.length_nil]; (repeat (first | (refine ⟨_, .lent (hf := h7) (hd := rfl) (hr := rfl), ?_⟩; simp (maxSteps := 4000000) only [go_sem, n1, n2, h1, h2, List.nil_append, List.length_nil]) | (refine ⟨_, .lent (hf := h9) (hd := rfl) (hr := rfl), ?_⟩; simp (maxSteps := 4000000) only [go_sem, n1, n2, h1, h2, List.nil_append, List.length_nil]) | (refine ⟨_, .lent (hf := h10) (hd := rfl) (hr := rfl), ?_⟩; simp (maxSteps := 4000000) only [go_sem, n1, n2, h1, h2, List.nil_append, List.length_nil]) | (refine ⟨_, .lent (hf := h22) (hd := rfl) (hr := rfl), ?_⟩; simp (maxSteps := 4000000) only [go_sem, n1, n2, h1, h2, List.nil_append, List.length_nil]) | (refine ⟨_, .lent (hf := h23) (hd := rfl) (hr := rfl), ?_⟩; simp (maxSteps := 4000000) only [go_sem, n1, n2, h1, h2, List.nil_append, List.length_nil]) | (refine ⟨_, .lent (hf := ca) (hd := rfl) (hr := rfl), ?_⟩; simp (maxSteps := 4000000) only [go_sem, n1, n2, h1, h2, List.nil_append, List.length_nil]) | (refine ⟨_, .lent (hf := cb) (hd := rfl) (hr := rfl), ?_⟩; simp (maxSteps := 4000000) only [go_sem, n1, n2, h1, h2, List.nil_append, List.length_nil]) | (refine ⟨_, .lent (hf := h24) (hd := rfl) (hr := rfl), ?_⟩; simp (maxSteps := 4000000) only [go_sem, n1, n2, h1, h2, List.nil_append, List.length_nil]) | (refine ⟨_, .lent (hf := h25) (hd := rfl) (hr := rfl), ?_⟩; simp (maxSteps := 4000000) only [go_sem, n1, n2, h1, h2, List.nil_append, List.length_nil]) | (refine ⟨_, .lent (hf := h26) (hd := rfl) (hr := rfl), ?_⟩; simp (maxSteps := 4000000) only [go_sem, n1, n2, h1, h2, List.nil_append, List.length_nil]) | (refine ⟨_, .lent (hf := h27) (hd := rfl) (hr := rfl), ?_⟩; simp (maxSteps := 4000000) only [go_sem, n1, n2, h1, h2, List.nil_append, List.length_nil]) | (refine ⟨_, .given (hf := h7) (hd := rfl) (ha := rfl), ?_⟩; simp (maxSteps := 4000000) only [go_sem, n1, n2, h1, h2, List.nil_append, List.length_nil]) | (refine ⟨_, .given (hf := h9) (hd := rfl) (ha := rfl), ?_⟩; simp (maxSteps := 4000000) only [go_sem, n1, n2, h1, h2, List.nil_append, List.length_nil]) | (refine ⟨_, .given (hf := h10) (hd := rfl) (ha := rfl), ?_⟩; simp (maxSteps := 4000000) only [go_sem, n1, n2, h1, h2, List.nil_append, List.length_nil]) | (refine ⟨_, .given (hf := h22) (hd := rfl) (ha := rfl), ?_⟩; simp (maxSteps := 4000000) only [go_sem, n1, n2, h1, h2, List.nil_append, List.length_nil]) | (refine ⟨_, .given (hf := h23) (hd := rfl) (ha := rfl), ?_⟩; simp (maxSteps := 4000000) only [go_sem, n1, n2, h1, h2, List.nil_append, List.length_nil]) | (refine ⟨_, .given (hf := ca) (hd := rfl) (ha := rfl), ?_⟩; simp (maxSteps := 4000000) only [go_sem, n1, n2, h1, h2, List.nil_append, List.length_nil]) | (refine ⟨_, .given (hf := cb) (hd := rfl) (ha := rfl), ?_⟩; simp (maxSteps := 4000000) only [go_sem, n1, n2, h1, h2, List.nil_append, List.length_nil]) | (refine ⟨_, .given (hf := h24) (hd := rfl) (ha := rfl), ?_⟩; simp (maxSteps := 4000000) only [go_sem, n1, n2, h1, h2, List.nil_append, List.length_nil]) | (refine ⟨_, .given (hf := h25) (hd := rfl) (ha := rfl), ?_⟩; simp (maxSteps := 4000000) only [go_sem, n1, n2, h1, h2, List.nil_append, List.length_nil]) | (refine ⟨_, .given (hf := h26) (hd := rfl) (ha := rfl), ?_⟩; simp (maxSteps := 4000000) only [go_sem, n1, n2, h1, h2, List.nil_append, List.length_nil]) | (refine ⟨_, .given (hf := h27) (hd := rfl) (ha := rfl), ?_⟩; simp (maxSteps := 4000000) only [go_sem, n1, n2, h1, h2, List.nil_append, List.length_nil]))); refine hK _ ?_; clear hK K) | (refine walkL_drawn (by kernel_rfl) (by kernel_rfl) fun K hK => ?_; simp (maxSteps := 4000000) only [go_sem, n1, n2, h1, h2, List.nil_append, List.length_nil]; (repeat (first | (refine ⟨_, .fn (hf := h7) (hd := rfl) (hr := .inl rfl), ?_⟩; simp (maxSteps := 4000000) only [go_sem, n1, n2, h1, h2, List.nil_append, List.length_nil]) | (refine ⟨_, .fn (hf := h9) (hd := rfl) (hr := .inl rfl), ?_⟩; simp (maxSteps := 4000000) only [go_sem, n1, n2, h1, h2, List.nil_append, List.length_nil]) | (refine ⟨_, .fn (hf := h10) (hd := rfl) (hr := .inl rfl), ?_⟩; simp (maxSteps := 4000000) only [go_sem, n1, n2, h1, h2, List.nil_append, List.length_nil]) | (refine ⟨_, .fn (hf := h22) (hd := rfl) (hr := .inl rfl), ?_⟩; simp (maxSteps := 4000000) only [go_sem, n1, n2, h1, h2, List.nil_append, List.length_nil]) | (refine ⟨_, .fn (hf := h23) (hd := rfl) (hr := .inl rfl), ?_⟩; simp (maxSteps := 4000000) only [go_sem, n1, n2, h1, h2, List.nil_append, List.length_nil]) | (refine ⟨_, .fn (hf := ca) (hd := rfl) (hr := .inl rfl), ?_⟩; simp (maxSteps := 4000000) only [go_sem, n1, n2, h1, h2, List.nil_append, List.length_nil]) | (refine ⟨_, .fn (hf := cb) (hd := rfl) (hr := .inl rfl), ?_⟩; simp (maxSteps := 4000000) only [go_sem, n1, n2, h1, h2, List.nil_append, List.length_nil]) | (refine ⟨_, .fn (hf := h24) (hd := rfl) (hr := .inl rfl), ?_⟩; simp (maxSteps := 4000000) only [go_sem, n1, n2, h1, h2, List.nil_append, List.length_nil]) | (refine ⟨_, .fn (hf := h25) (hd := rfl) (hr := .inl rfl), ?_⟩; simp (maxSteps := 4000000) only [go_sem, n1, n2, h1, h2, List.nil_append, List.length_nil]) | (refine ⟨_, .fn (hf := h26) (hd := rfl) (hr := .inl rfl), ?_⟩; simp (maxSteps := 4000000) only [go_sem, n1, n2, h1, h2, List.nil_append, List.length_nil]) | (refine ⟨_, .fn (hf := h27) (hd := rfl) (hr := .inl rfl), ?_⟩; simp (maxSteps := 4000000) only [go_sem, n1, n2, h1, h2, List.nil_append, List.length_nil]))); refine ⟨by kernel_rfl, hK _ ?_⟩; clear hK K) | refine walkL_nil ?_ | refine walkL_ret ?_ | refine walkL_exit ?_ | refine blockA_here ?_ | refine blockA_other rfl ?_ | refine blockA_ret ?_ | refine blockA_normal ?_ | refine thenA_ret ?_ | refine thenA_exit ?_ | refine thenA_normal ?_)
    simp (maxSteps := 4000000) only [go_sem]
  · rw [q] at h7
    refine fn_walk 127 Tryz.call5 Tryz.func5 rfl (by decide) fun J => ?_
    simp (maxSteps := 4000000) only [go_sem, St.start, Tryz.ntmps5, Tryz.results5, QueryX.cells]
    repeat (first | refine walkL_true rfl ?_ | refine walkL_false rfl ?_ | refine walkL_seq ?_ | refine walkL_skip ?_ | refine walkL_block ?_ | (refine walkL_region fun K hK => ?_; simp (maxSteps := 4000000) only [go_sem]; (repeat (first | (refine ⟨_, .lent (hf := h7) (hd := rfl) (hr := rfl), ?_⟩; simp (maxSteps := 4000000) only [go_sem]) | (refine ⟨_, .lent (hf := h9) (hd := rfl) (hr := rfl), ?_⟩; simp (maxSteps := 4000000) only [go_sem]) | (refine ⟨_, .given (hf := h7) (hd := rfl) (ha := rfl), ?_⟩; simp (maxSteps := 4000000) only [go_sem]) | (refine ⟨_, .given (hf := h9) (hd := rfl) (ha := rfl), ?_⟩; simp (maxSteps := 4000000) only [go_sem]))); refine hK _ ?_; clear hK K) | refine walkL_nil ?_ | refine walkL_ret ?_ | refine walkL_exit ?_ | refine blockA_here ?_ | refine blockA_other rfl ?_ | refine blockA_ret ?_ | refine blockA_normal ?_ | refine thenA_ret ?_ | refine thenA_exit ?_ | refine thenA_normal ?_)
    simp (maxSteps := 4000000) only [go_sem]
end Go.Ab
namespace Go.Ab
open Go.RowKit Go.Proofs
set_option maxHeartbeats 8000000
set_option maxRecDepth 20000
attribute [local irreducible] WalkL Walk
def crE (n : Net) (rules : List Rule) (F : List (List Hour)) (seen : List Sight) (t : Bool) : Int :=
  if foreF F ≠ 0 then foreF F else if checkF n ≠ 0 then checkF n else lookF F seen (if badRules n rules then 53 else 0) t
theorem ruledE_cr (n : Net) (rules : List Rule) (F : List (List Hour)) (seen : List Sight) (p : Int) : ruledE n rules F seen p = crE n rules F seen (withinB p (-1) ((n.paths.length : Int) - 1)) := rfl
theorem f19 (n : Net) (rules : List Rule) (F : List (List Hour)) (seen : List Sight) (t : Bool) (hn : n.Small) (hr : rules.length < 2 ^ 30) (hs : ForeSmall F) (hsl : seen.length < 2 ^ 30) :
    Fn Tryz.prog 19 [.agg n.cells, .sl (ruleRows rules), .agg [.sl (scenRows F)], .sl (sightRows seen), .bool t] (.i (crE n rules F seen t)) := by
  have h35 := f35 F hs
  have h42 := f42 n hn
  have h54 := f54 F seen hs hsl
  have h56 := f56 n rules hn hr
  rw [Net.cells_eq] at h42 h56
  unfold foreF at h35
  unfold crE foreF
  cases hb : badF F
  · rw [hb] at h35
    simp only [Bool.false_eq_true, if_false] at h35
    simp only [Bool.false_eq_true, if_false, ne_eq, not_true_eq_false]
    obtain ⟨c, hc⟩ : ∃ c, c = checkF n := ⟨_, rfl⟩
    rw [← hc] at h42 ⊢
    by_cases hc0 : c = 0
    · have zc : (c != 0) = false := by simp [hc0]
      rw [if_neg (by simp [hc0])]
      unfold lookF
      unfold seenF at h54
      rw [hb] at h54 ⊢
      simp only [Bool.false_eq_true, if_false] at h54 ⊢
      cases hq : sightsB (hd0 F).length seen
      · rw [hq] at h54
        simp only [Bool.false_eq_true, if_false] at h54 ⊢
        refine fn_walk 38 Tryz.call19 Tryz.func19 rfl (by decide) fun J => ?_
        simp (maxSteps := 4000000) only [go_sem, St.start, Tryz.ntmps19, Tryz.results19, Net.cells_eq]
        repeat (first | refine walkL_true rfl ?_ | refine walkL_false rfl ?_ | refine walkL_seq ?_ | refine walkL_skip ?_ | refine walkL_block ?_ | (refine walkL_region fun K hK => ?_; simp (maxSteps := 4000000) only [go_sem, zc]; (repeat (first | (refine ⟨_, .lent (hf := h35) (hd := rfl) (hr := rfl), ?_⟩; simp (maxSteps := 4000000) only [go_sem, zc]) | (refine ⟨_, .lent (hf := h42) (hd := rfl) (hr := rfl), ?_⟩; simp (maxSteps := 4000000) only [go_sem, zc]) | (refine ⟨_, .lent (hf := h54) (hd := rfl) (hr := rfl), ?_⟩; simp (maxSteps := 4000000) only [go_sem, zc]) | (refine ⟨_, .given (hf := h35) (hd := rfl) (ha := rfl), ?_⟩; simp (maxSteps := 4000000) only [go_sem, zc]) | (refine ⟨_, .given (hf := h42) (hd := rfl) (ha := rfl), ?_⟩; simp (maxSteps := 4000000) only [go_sem, zc]) | (refine ⟨_, .given (hf := h54) (hd := rfl) (ha := rfl), ?_⟩; simp (maxSteps := 4000000) only [go_sem, zc]))); refine hK _ ?_; clear hK K) | refine walkL_nil ?_ | refine walkL_ret ?_ | refine walkL_exit ?_ | refine blockA_here ?_ | refine blockA_other rfl ?_ | refine blockA_ret ?_ | refine blockA_normal ?_ | refine thenA_ret ?_ | refine thenA_exit ?_ | refine thenA_normal ?_)
        simp (maxSteps := 4000000) only [go_sem]
      · rw [hq] at h54
        simp only [if_true] at h54 ⊢
        cases hbr : badRules n rules
        · rw [hbr] at h56
          simp only [Bool.false_eq_true, if_false, if_true]
          cases t
          · simp only [Bool.false_eq_true, if_false]
            refine fn_walk 38 Tryz.call19 Tryz.func19 rfl (by decide) fun J => ?_
            simp (maxSteps := 4000000) only [go_sem, St.start, Tryz.ntmps19, Tryz.results19, Net.cells_eq]
            repeat (first | refine walkL_true rfl ?_ | refine walkL_false rfl ?_ | refine walkL_seq ?_ | refine walkL_skip ?_ | refine walkL_block ?_ | (refine walkL_region fun K hK => ?_; simp (maxSteps := 4000000) only [go_sem, zc]; (repeat (first | (refine ⟨_, .lent (hf := h35) (hd := rfl) (hr := rfl), ?_⟩; simp (maxSteps := 4000000) only [go_sem, zc]) | (refine ⟨_, .lent (hf := h42) (hd := rfl) (hr := rfl), ?_⟩; simp (maxSteps := 4000000) only [go_sem, zc]) | (refine ⟨_, .lent (hf := h54) (hd := rfl) (hr := rfl), ?_⟩; simp (maxSteps := 4000000) only [go_sem, zc]) | (refine ⟨_, .lent (hf := h56) (hd := rfl) (hr := rfl), ?_⟩; simp (maxSteps := 4000000) only [go_sem, zc]) | (refine ⟨_, .given (hf := h35) (hd := rfl) (ha := rfl), ?_⟩; simp (maxSteps := 4000000) only [go_sem, zc]) | (refine ⟨_, .given (hf := h42) (hd := rfl) (ha := rfl), ?_⟩; simp (maxSteps := 4000000) only [go_sem, zc]) | (refine ⟨_, .given (hf := h54) (hd := rfl) (ha := rfl), ?_⟩; simp (maxSteps := 4000000) only [go_sem, zc]) | (refine ⟨_, .given (hf := h56) (hd := rfl) (ha := rfl), ?_⟩; simp (maxSteps := 4000000) only [go_sem, zc]))); refine hK _ ?_; clear hK K) | refine walkL_nil ?_ | refine walkL_ret ?_ | refine walkL_exit ?_ | refine blockA_here ?_ | refine blockA_other rfl ?_ | refine blockA_ret ?_ | refine blockA_normal ?_ | refine thenA_ret ?_ | refine thenA_exit ?_ | refine thenA_normal ?_)
            simp (maxSteps := 4000000) only [go_sem]
          · simp only [if_true]
            have h57 := f57 F seen (fore_iff.1 hb) hq
            cases hp : possL F seen with
            | nil =>
              have e0 : intRows (numsOf []) = [] := rfl
              rw [hp, e0] at h57
              simp only [List.isEmpty_nil, if_true]
              refine fn_walk 38 Tryz.call19 Tryz.func19 rfl (by decide) fun J => ?_
              simp (maxSteps := 4000000) only [go_sem, St.start, Tryz.ntmps19, Tryz.results19, Net.cells_eq]
              repeat (first | refine walkL_true rfl ?_ | refine walkL_false rfl ?_ | refine walkL_seq ?_ | refine walkL_skip ?_ | refine walkL_block ?_ | (refine walkL_region fun K hK => ?_; simp (maxSteps := 4000000) only [go_sem, zc]; (repeat (first | (refine ⟨_, .lent (hf := h35) (hd := rfl) (hr := rfl), ?_⟩; simp (maxSteps := 4000000) only [go_sem, zc]) | (refine ⟨_, .lent (hf := h42) (hd := rfl) (hr := rfl), ?_⟩; simp (maxSteps := 4000000) only [go_sem, zc]) | (refine ⟨_, .lent (hf := h54) (hd := rfl) (hr := rfl), ?_⟩; simp (maxSteps := 4000000) only [go_sem, zc]) | (refine ⟨_, .lent (hf := h56) (hd := rfl) (hr := rfl), ?_⟩; simp (maxSteps := 4000000) only [go_sem, zc]) | (refine ⟨_, .lent (hf := h57) (hd := rfl) (hr := rfl), ?_⟩; simp (maxSteps := 4000000) only [go_sem, zc]) | (refine ⟨_, .given (hf := h35) (hd := rfl) (ha := rfl), ?_⟩; simp (maxSteps := 4000000) only [go_sem, zc]) | (refine ⟨_, .given (hf := h42) (hd := rfl) (ha := rfl), ?_⟩; simp (maxSteps := 4000000) only [go_sem, zc]) | (refine ⟨_, .given (hf := h54) (hd := rfl) (ha := rfl), ?_⟩; simp (maxSteps := 4000000) only [go_sem, zc]) | (refine ⟨_, .given (hf := h56) (hd := rfl) (ha := rfl), ?_⟩; simp (maxSteps := 4000000) only [go_sem, zc]) | (refine ⟨_, .given (hf := h57) (hd := rfl) (ha := rfl), ?_⟩; simp (maxSteps := 4000000) only [go_sem, zc]))); refine hK _ ?_; clear hK K) | refine walkL_nil ?_ | refine walkL_ret ?_ | refine walkL_exit ?_ | refine blockA_here ?_ | refine blockA_other rfl ?_ | refine blockA_ret ?_ | refine blockA_normal ?_ | refine thenA_ret ?_ | refine thenA_exit ?_ | refine thenA_normal ?_)
              simp (maxSteps := 4000000) only [go_sem]
            | cons a l =>
              have hnl : ((numsOf (a :: l)).length : Int) = (l.length : Int) + 1 := by simp [numsOf]
              have hz : (((numsOf (a :: l)).length : Int) == 0) = false := by
                have : ¬ ((numsOf (a :: l)).length : Int) = 0 := by omega
                simpa using this
              rw [hp] at h57
              obtain ⟨L, hL⟩ : ∃ L, L = numsOf (a :: l) := ⟨_, rfl⟩
              rw [← hL] at h57 hz
              simp only [List.isEmpty_cons, Bool.false_eq_true, if_false]
              refine fn_walk 38 Tryz.call19 Tryz.func19 rfl (by decide) fun J => ?_
              simp (maxSteps := 4000000) only [go_sem, St.start, Tryz.ntmps19, Tryz.results19, Net.cells_eq]
              repeat (first | refine walkL_true rfl ?_ | refine walkL_false rfl ?_ | refine walkL_seq ?_ | refine walkL_skip ?_ | refine walkL_block ?_ | (refine walkL_region fun K hK => ?_; simp (maxSteps := 4000000) only [go_sem, zc, hz, intRows_len]; (repeat (first | (refine ⟨_, .lent (hf := h35) (hd := rfl) (hr := rfl), ?_⟩; simp (maxSteps := 4000000) only [go_sem, zc, hz, intRows_len]) | (refine ⟨_, .lent (hf := h42) (hd := rfl) (hr := rfl), ?_⟩; simp (maxSteps := 4000000) only [go_sem, zc, hz, intRows_len]) | (refine ⟨_, .lent (hf := h54) (hd := rfl) (hr := rfl), ?_⟩; simp (maxSteps := 4000000) only [go_sem, zc, hz, intRows_len]) | (refine ⟨_, .lent (hf := h56) (hd := rfl) (hr := rfl), ?_⟩; simp (maxSteps := 4000000) only [go_sem, zc, hz, intRows_len]) | (refine ⟨_, .lent (hf := h57) (hd := rfl) (hr := rfl), ?_⟩; simp (maxSteps := 4000000) only [go_sem, zc, hz, intRows_len]) | (refine ⟨_, .given (hf := h35) (hd := rfl) (ha := rfl), ?_⟩; simp (maxSteps := 4000000) only [go_sem, zc, hz, intRows_len]) | (refine ⟨_, .given (hf := h42) (hd := rfl) (ha := rfl), ?_⟩; simp (maxSteps := 4000000) only [go_sem, zc, hz, intRows_len]) | (refine ⟨_, .given (hf := h54) (hd := rfl) (ha := rfl), ?_⟩; simp (maxSteps := 4000000) only [go_sem, zc, hz, intRows_len]) | (refine ⟨_, .given (hf := h56) (hd := rfl) (ha := rfl), ?_⟩; simp (maxSteps := 4000000) only [go_sem, zc, hz, intRows_len]) | (refine ⟨_, .given (hf := h57) (hd := rfl) (ha := rfl), ?_⟩; simp (maxSteps := 4000000) only [go_sem, zc, hz, intRows_len]))); refine hK _ ?_; clear hK K) | refine walkL_nil ?_ | refine walkL_ret ?_ | refine walkL_exit ?_ | refine blockA_here ?_ | refine blockA_other rfl ?_ | refine blockA_ret ?_ | refine blockA_normal ?_ | refine thenA_ret ?_ | refine thenA_exit ?_ | refine thenA_normal ?_)
              simp (maxSteps := 4000000) only [go_sem]
        · rw [hbr] at h56
          rw [if_pos rfl, if_neg (by decide)]
          refine fn_walk 38 Tryz.call19 Tryz.func19 rfl (by decide) fun J => ?_
          simp (maxSteps := 4000000) only [go_sem, St.start, Tryz.ntmps19, Tryz.results19, Net.cells_eq]
          repeat (first | refine walkL_true rfl ?_ | refine walkL_false rfl ?_ | refine walkL_seq ?_ | refine walkL_skip ?_ | refine walkL_block ?_ | (refine walkL_region fun K hK => ?_; simp (maxSteps := 4000000) only [go_sem, zc]; (repeat (first | (refine ⟨_, .lent (hf := h35) (hd := rfl) (hr := rfl), ?_⟩; simp (maxSteps := 4000000) only [go_sem, zc]) | (refine ⟨_, .lent (hf := h42) (hd := rfl) (hr := rfl), ?_⟩; simp (maxSteps := 4000000) only [go_sem, zc]) | (refine ⟨_, .lent (hf := h54) (hd := rfl) (hr := rfl), ?_⟩; simp (maxSteps := 4000000) only [go_sem, zc]) | (refine ⟨_, .lent (hf := h56) (hd := rfl) (hr := rfl), ?_⟩; simp (maxSteps := 4000000) only [go_sem, zc]) | (refine ⟨_, .given (hf := h35) (hd := rfl) (ha := rfl), ?_⟩; simp (maxSteps := 4000000) only [go_sem, zc]) | (refine ⟨_, .given (hf := h42) (hd := rfl) (ha := rfl), ?_⟩; simp (maxSteps := 4000000) only [go_sem, zc]) | (refine ⟨_, .given (hf := h54) (hd := rfl) (ha := rfl), ?_⟩; simp (maxSteps := 4000000) only [go_sem, zc]) | (refine ⟨_, .given (hf := h56) (hd := rfl) (ha := rfl), ?_⟩; simp (maxSteps := 4000000) only [go_sem, zc]))); refine hK _ ?_; clear hK K) | refine walkL_nil ?_ | refine walkL_ret ?_ | refine walkL_exit ?_ | refine blockA_here ?_ | refine blockA_other rfl ?_ | refine blockA_ret ?_ | refine blockA_normal ?_ | refine thenA_ret ?_ | refine thenA_exit ?_ | refine thenA_normal ?_)
          simp (maxSteps := 4000000) only [go_sem]
    · have zc : (c != 0) = true := by simpa using hc0
      rw [if_pos hc0]
      refine fn_walk 38 Tryz.call19 Tryz.func19 rfl (by decide) fun J => ?_
      simp (maxSteps := 4000000) only [go_sem, St.start, Tryz.ntmps19, Tryz.results19, Net.cells_eq]
      repeat (first | refine walkL_true rfl ?_ | refine walkL_false rfl ?_ | refine walkL_seq ?_ | refine walkL_skip ?_ | refine walkL_block ?_ | (refine walkL_region fun K hK => ?_; simp (maxSteps := 4000000) only [go_sem, zc]; (repeat (first | (refine ⟨_, .lent (hf := h35) (hd := rfl) (hr := rfl), ?_⟩; simp (maxSteps := 4000000) only [go_sem, zc]) | (refine ⟨_, .lent (hf := h42) (hd := rfl) (hr := rfl), ?_⟩; simp (maxSteps := 4000000) only [go_sem, zc]) | (refine ⟨_, .given (hf := h35) (hd := rfl) (ha := rfl), ?_⟩; simp (maxSteps := 4000000) only [go_sem, zc]) | (refine ⟨_, .given (hf := h42) (hd := rfl) (ha := rfl), ?_⟩; simp (maxSteps := 4000000) only [go_sem, zc]))); refine hK _ ?_; clear hK K) | refine walkL_nil ?_ | refine walkL_ret ?_ | refine walkL_exit ?_ | refine blockA_here ?_ | refine blockA_other rfl ?_ | refine blockA_ret ?_ | refine blockA_normal ?_ | refine thenA_ret ?_ | refine thenA_exit ?_ | refine thenA_normal ?_)
      simp (maxSteps := 4000000) only [go_sem]
  · rw [hb] at h35
    simp only [if_true] at h35
    simp only [if_true]
    rw [if_pos (by decide)]
    refine fn_walk 38 Tryz.call19 Tryz.func19 rfl (by decide) fun J => ?_
    simp (maxSteps := 4000000) only [go_sem, St.start, Tryz.ntmps19, Tryz.results19, Net.cells_eq]
    repeat (first | refine walkL_true rfl ?_ | refine walkL_false rfl ?_ | refine walkL_seq ?_ | refine walkL_skip ?_ | refine walkL_block ?_ | (refine walkL_region fun K hK => ?_; simp (maxSteps := 4000000) only [go_sem]; (repeat (first | (refine ⟨_, .lent (hf := h35) (hd := rfl) (hr := rfl), ?_⟩; simp (maxSteps := 4000000) only [go_sem]) | (refine ⟨_, .given (hf := h35) (hd := rfl) (ha := rfl), ?_⟩; simp (maxSteps := 4000000) only [go_sem]))); refine hK _ ?_; clear hK K) | refine walkL_nil ?_ | refine walkL_ret ?_ | refine walkL_exit ?_ | refine blockA_here ?_ | refine blockA_other rfl ?_ | refine blockA_ret ?_ | refine blockA_normal ?_ | refine thenA_ret ?_ | refine thenA_exit ?_ | refine thenA_normal ?_)
    simp (maxSteps := 4000000) only [go_sem]
def opnF (n : Net) (rules : List Rule) (F : List (List Hour)) (seen : List Sight) (p : Int) : List Span × List Span × Int :=
  if ruledE n rules F seen (if p < 0 then 24 else p) = 0 then (openS (ofPath rules (if p < 0 then 24 else p)) (scensOf (possL F seen)) (hd0 F).length, openM (ofPath rules (if p < 0 then 24 else p)) (scensOf (possL F seen)) (hd0 F).length, 0) else ([], [], ruledE n rules F seen (if p < 0 then 24 else p))
theorem f12o (n : Net) (rules : List Rule) (F : List (List Hour)) (seen : List Sight) (p : Int) (hn : n.Small) (hr : rules.length < 2 ^ 30) (hs : ForeSmall F) (hsl : seen.length < 2 ^ 30) :
    Fn Tryz.prog 12 [.agg n.cells, .sl (ruleRows rules), .agg [.sl (scenRows F)], .sl (sightRows seen), .i p] (.tup [.sl (spanRows (opnF n rules F seen p).1), .sl (spanRows (opnF n rules F seen p).2.1), .i (opnF n rules F seen p).2.2]) := by
  have key : ∀ q : Int, q = (if p < 0 then 24 else p) → Fn Tryz.prog 12 [.agg n.cells, .sl (ruleRows rules), .agg [.sl (scenRows F)], .sl (sightRows seen), .i p] (.tup [.sl (spanRows (opnF n rules F seen p).1), .sl (spanRows (opnF n rules F seen p).2.1), .i (opnF n rules F seen p).2.2]) := by
    intro q hq
    have h40 := f40 n rules F seen q hn hr hs hsl
    unfold opnF
    rw [← hq]
    rw [Net.cells_eq] at h40
    obtain ⟨e, he⟩ : ∃ e, e = ruledE n rules F seen q := ⟨_, rfl⟩
    rw [← he] at h40 ⊢
    have qp : (decide (p < 0) = true ∧ q = 24) ∨ (decide (p < 0) = false ∧ q = p) := by
      by_cases hp : p < 0
      · rw [if_pos hp] at hq
        exact .inl ⟨decide_eq_true hp, hq⟩
      · rw [if_neg hp] at hq
        exact .inr ⟨decide_eq_false hp, hq⟩
    by_cases h0 : e = 0
    · rw [if_pos h0, lookV_out] at h40
      rw [if_pos h0]
      have hz : (e != 0) = false := by simp [h0]
      obtain ⟨hg, hsi, hne, hbn, hbr, _⟩ := ruled_all (he.symm.trans h0)
      obtain ⟨hrl, hro⟩ := rules_ok hbr
      have hall := scens_all (seen := seen) hg
      have hSl := scens_short (F := F) (seen := seen)
      have hH := hg.hours
      have hF := hg.scen
      have h41 := f41 (numsOf (possL F seen)) (scensOf (possL F seen)) (hd0 F).length (ofPath rules q) (fun x hx => (hro x (ofPath_sub x hx)).2.1) hall (by omega) (by omega) (by have := ofPath_len (rules := rules) (p := q); omega)
      obtain ⟨A, hA⟩ : ∃ A, A = openS (ofPath rules q) (scensOf (possL F seen)) (hd0 F).length := ⟨_, rfl⟩
      obtain ⟨B, hB⟩ : ∃ B, B = openM (ofPath rules q) (scensOf (possL F seen)) (hd0 F).length := ⟨_, rfl⟩
      rw [← hA, ← hB] at h41 ⊢
      rw [outV] at h40 h41
      rcases qp with ⟨q1, rfl⟩ | ⟨q1, rfl⟩
      all_goals
        refine fn_walk 35 Tryz.call12 Tryz.func12 rfl (by decide) fun J => ?_
        simp (maxSteps := 4000000) only [go_sem, St.start, Tryz.ntmps12, Tryz.results12, Net.cells_eq]
        repeat (first | refine walkL_true rfl ?_ | refine walkL_false rfl ?_ | refine walkL_seq ?_ | refine walkL_skip ?_ | refine walkL_block ?_ | (refine walkL_region fun K hK => ?_; simp (maxSteps := 4000000) only [go_sem, q1, hz]; (repeat (first | (refine ⟨_, .lent (hf := h40) (hd := rfl) (hr := rfl), ?_⟩; simp (maxSteps := 4000000) only [go_sem, q1, hz]) | (refine ⟨_, .lent (hf := h41) (hd := rfl) (hr := rfl), ?_⟩; simp (maxSteps := 4000000) only [go_sem, q1, hz]) | (refine ⟨_, .given (hf := h40) (hd := rfl) (ha := rfl), ?_⟩; simp (maxSteps := 4000000) only [go_sem, q1, hz]) | (refine ⟨_, .given (hf := h41) (hd := rfl) (ha := rfl), ?_⟩; simp (maxSteps := 4000000) only [go_sem, q1, hz]))); refine hK _ ?_; clear hK K) | refine walkL_nil ?_ | refine walkL_ret ?_ | refine walkL_exit ?_ | refine blockA_here ?_ | refine blockA_other rfl ?_ | refine blockA_ret ?_ | refine blockA_normal ?_ | refine thenA_ret ?_ | refine thenA_exit ?_ | refine thenA_normal ?_)
        simp (maxSteps := 4000000) only [go_sem]
    · rw [if_neg h0] at h40
      rw [if_neg h0]
      have hz : (e != 0) = true := by simpa using h0
      have e0 : spanRows [] = [] := rfl
      rcases qp with ⟨q1, rfl⟩ | ⟨q1, rfl⟩
      all_goals
        refine fn_walk 35 Tryz.call12 Tryz.func12 rfl (by decide) fun J => ?_
        simp (maxSteps := 4000000) only [go_sem, St.start, Tryz.ntmps12, Tryz.results12, Net.cells_eq]
        repeat (first | refine walkL_true rfl ?_ | refine walkL_false rfl ?_ | refine walkL_seq ?_ | refine walkL_skip ?_ | refine walkL_block ?_ | (refine walkL_region fun K hK => ?_; simp (maxSteps := 4000000) only [go_sem, q1, hz]; (repeat (first | (refine ⟨_, .lent (hf := h40) (hd := rfl) (hr := rfl), ?_⟩; simp (maxSteps := 4000000) only [go_sem, q1, hz]) | (refine ⟨_, .given (hf := h40) (hd := rfl) (ha := rfl), ?_⟩; simp (maxSteps := 4000000) only [go_sem, q1, hz]))); refine hK _ ?_; clear hK K) | refine walkL_nil ?_ | refine walkL_ret ?_ | refine walkL_exit ?_ | refine blockA_here ?_ | refine blockA_other rfl ?_ | refine blockA_ret ?_ | refine blockA_normal ?_ | refine thenA_ret ?_ | refine thenA_exit ?_ | refine thenA_normal ?_)
        simp (maxSteps := 4000000) only [go_sem, e0]
  exact key _ rfl
def ruleOk (m : List Sky) (p : Int) (h : Nat) (r : Rule) : Bool := !(r.path == p) || (List.range (h + 1)).all fun b => !(decide ((h : Int) - r.after ≤ (b : Int))) || keptB (skyAt m b) r.lim
end Go.Ab
