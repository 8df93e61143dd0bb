/- A walk engine over abstract states, and the contracts of the functions that the statement reaches: part 6. -/
import Derived.Test.YtlcbalngfpgjdaaGreatDoorWe
set_option linter.unusedVariables false
set_option linter.unusedSimpArgs false
set_option linter.unnecessarySimpa false
namespace Go.Ab
open Go.RowKit Go.Proofs
set_option maxHeartbeats 16000000
set_option maxRecDepth 20000
attribute [local irreducible] WalkL Walk
theorem f159 : Fn Tryz.prog 159 [] (.agg wideL.row) := by
  refine fn_walk 3 Tryz.call159 Tryz.func159 rfl (by decide) fun J => ?_
  simp (maxSteps := 4000000) only [go_sem, St.start, Tryz.ntmps159, Tryz.results159]
  repeat (first | refine walkL_seq ?_ | refine walkL_skip ?_ | refine walkL_block ?_ | (refine walkL_region fun K hK => ?_; simp (maxSteps := 4000000) only [go_sem]; refine hK _ ?_; clear hK K) | refine walkL_nil ?_ | refine walkL_ret ?_ | refine walkL_exit ?_ | refine blockA_here ?_ | refine blockA_other rfl ?_ | refine blockA_ret ?_ | refine blockA_normal ?_ | refine thenA_ret ?_ | refine thenA_exit ?_ | refine thenA_normal ?_)
  simp (maxSteps := 4000000) only [go_sem, Limits.row, wideL]
theorem f160 (a b : Limits) : Fn Tryz.prog 160 [.agg a.row, .agg b.row] (.tup [.agg (andL a b).row, .bool (decide ((andL a b).temp.lo ≤ (andL a b).temp.hi))]) := by
  refine fn_walk 39 Tryz.call160 Tryz.func160 rfl (by decide) fun J => ?_
  simp (maxSteps := 4000000) only [go_sem, St.start, Tryz.ntmps160, Tryz.results160, Limits.row]
  repeat (first | refine walkL_seq ?_ | refine walkL_skip ?_ | refine walkL_block ?_ | (refine walkL_region fun K hK => ?_; simp (maxSteps := 4000000) only [go_sem]; refine hK _ ?_; clear hK K) | (refine walkL_drawn (by kernel_rfl) (by kernel_rfl) fun K hK => ?_; simp (maxSteps := 4000000) only [go_sem]; refine ⟨by kernel_rfl, hK _ ?_⟩; clear hK K) | refine walkL_nil ?_ | refine walkL_ret ?_ | refine walkL_exit ?_ | refine blockA_here ?_ | refine blockA_other rfl ?_ | refine blockA_ret ?_ | refine blockA_normal ?_ | refine thenA_ret ?_ | refine thenA_exit ?_ | refine thenA_normal ?_)
  simp (maxSteps := 4000000) only [go_sem, andL]
  try rfl
theorem f52 (rules : List Rule) (p : Int) (hr : rules.length < 2 ^ 30) : Fn Tryz.prog 52 [.sl (ruleRows rules), .i p] (.bool (rules.any fun r => r.path == p)) := by
  refine fn_walk 19 Tryz.call52 Tryz.func52 rfl (by decide) fun J => ?_
  simp (maxSteps := 4000000) only [go_sem, St.start, Tryz.ntmps52, Tryz.results52]
  repeat (first | refine walkL_seq ?_ | refine walkL_skip ?_ | refine walkL_block ?_ | (refine walkL_region fun K hK => ?_; simp (maxSteps := 4000000) only [go_sem]; refine hK _ ?_; clear hK K) | refine walkL_nil ?_ | refine walkL_ret ?_ | refine walkL_exit ?_ | refine blockA_here ?_ | refine blockA_other rfl ?_ | refine blockA_ret ?_ | refine blockA_normal ?_ | refine thenA_ret ?_ | refine thenA_exit ?_ | refine thenA_normal ?_)
  refine walkL_loopS (fun (i : Nat) => [(5, .d (.i i))]) (fun _ => []) (fun i => i ≤ rules.length ∧ (rules.take i).any (fun r => r.path == p) = false) (fun i => rules.length - i) 0 ?_ ⟨Nat.zero_le _, rfl⟩ ?_
  · simp (maxSteps := 4000000) only [go_sem]
    refine weak_of [] ?_ ?_ rfl rfl <;> simp [lessT, lessM, lessB, AV.less]
  · intro i ⟨hi, hall⟩
    simp (maxSteps := 4000000) only [go_sem]
    repeat (first | refine walkL_seq ?_ | refine walkL_skip ?_ | refine walkL_block ?_ | (refine walkL_region fun K hK => ?_; simp (maxSteps := 4000000) only [go_sem]; refine hK _ ?_; clear hK K) | refine walkL_nil ?_ | refine walkL_ret ?_ | refine walkL_exit ?_ | refine blockA_here ?_ | refine blockA_other rfl ?_ | refine blockA_ret ?_ | refine blockA_normal ?_ | refine thenA_ret ?_ | refine thenA_exit ?_ | refine thenA_normal ?_)
    refine walkL_cond rfl (fun hb => ?_) (fun hb => ?_)
    · have hlt : i < rules.length := by simpa using hb
      have hw : IntKind.i64.wrap ((i : Int) + 1) = ((i + 1 : Nat) : Int) := by rw [wr_small (by omega)]; simp
      obtain ⟨r, hx⟩ : ∃ r, rules[i]? = some r := ⟨_, List.getElem?_eq_getElem hlt⟩
      have g1 := ruleRows_at hx
      rw [Rule.row] at g1
      cases q : (r.path == p)
      · repeat (first | refine walkL_true rfl ?_ | refine walkL_false rfl ?_ | refine walkL_seq ?_ | refine walkL_skip ?_ | refine walkL_block ?_ | (refine walkL_region fun K hK => ?_; simp (maxSteps := 4000000) only [go_sem, g1, q, hw]; refine hK _ ?_; clear hK K) | refine walkL_nil ?_ | refine walkL_ret ?_ | refine walkL_exit ?_ | refine blockA_here ?_ | refine blockA_other rfl ?_ | refine blockA_ret ?_ | refine blockA_normal ?_ | refine thenA_ret ?_ | refine thenA_exit ?_ | refine thenA_normal ?_)
        refine ⟨rfl, i + 1, ?_, ⟨hlt, any_take_succ hx hall q⟩, by omega⟩
        refine weak_of [] ?_ ?_ rfl rfl <;> simp [lessT, lessM, lessB, AV.less]
      · have e : (rules.any fun r => r.path == p) = true := List.any_eq_true.2 ⟨r, List.mem_of_getElem? hx, q⟩
        rw [e]
        repeat (first | refine walkL_true rfl ?_ | refine walkL_false rfl ?_ | refine walkL_seq ?_ | refine walkL_skip ?_ | refine walkL_block ?_ | (refine walkL_region fun K hK => ?_; simp (maxSteps := 4000000) only [go_sem, g1, q]; refine hK _ ?_; clear hK K) | refine walkL_nil ?_ | refine walkL_ret ?_ | refine walkL_exit ?_ | refine blockA_here ?_ | refine blockA_other rfl ?_ | refine blockA_ret ?_ | refine blockA_normal ?_ | refine thenA_ret ?_ | refine thenA_exit ?_ | refine thenA_normal ?_)
        simp (maxSteps := 4000000) only [go_sem]
    · have he : i = rules.length := by (have : ¬ i < rules.length := by simpa using hb); omega
      subst he
      rw [List.take_length] at hall
      rw [hall]
      repeat (first | refine walkL_seq ?_ | refine walkL_skip ?_ | refine walkL_block ?_ | (refine walkL_region fun K hK => ?_; simp (maxSteps := 4000000) only [go_sem]; refine hK _ ?_; clear hK K) | refine walkL_nil ?_ | refine walkL_ret ?_ | refine walkL_exit ?_ | refine blockA_here ?_ | refine blockA_other rfl ?_ | refine blockA_ret ?_ | refine blockA_normal ?_ | refine thenA_ret ?_ | refine thenA_exit ?_ | refine thenA_normal ?_)
      simp (maxSteps := 4000000) only [go_sem]
theorem f53 (l : List Span) (n : Int) (hl : l.length < 2 ^ 30) : Fn Tryz.prog 53 [.sl (spanRows l), .i n] (.bool (inSpans l n)) := by
  unfold inSpans
  refine fn_walk 18 Tryz.call53 Tryz.func53 rfl (by decide) fun J => ?_
  simp (maxSteps := 4000000) only [go_sem, St.start, Tryz.ntmps53, Tryz.results53]
  repeat (first | refine walkL_seq ?_ | refine walkL_skip ?_ | refine walkL_block ?_ | (refine walkL_region fun K hK => ?_; simp (maxSteps := 4000000) only [go_sem]; refine hK _ ?_; clear hK K) | refine walkL_nil ?_ | refine walkL_ret ?_ | refine walkL_exit ?_ | refine blockA_here ?_ | refine blockA_other rfl ?_ | refine blockA_ret ?_ | refine blockA_normal ?_ | refine thenA_ret ?_ | refine thenA_exit ?_ | refine thenA_normal ?_)
  refine walkL_loopS (fun (i : Nat) => [(5, .d (.i i))]) (fun _ => []) (fun i => i ≤ l.length ∧ (l.take i).any (fun s => withinB n s.lo s.hi) = false) (fun i => l.length - i) 0 ?_ ⟨Nat.zero_le _, rfl⟩ ?_
  · simp (maxSteps := 4000000) only [go_sem]
    refine weak_of [] ?_ ?_ rfl rfl <;> simp [lessT, lessM, lessB, AV.less]
  · intro i ⟨hi, hall⟩
    simp (maxSteps := 4000000) only [go_sem]
    repeat (first | refine walkL_seq ?_ | refine walkL_skip ?_ | refine walkL_block ?_ | (refine walkL_region fun K hK => ?_; simp (maxSteps := 4000000) only [go_sem]; refine hK _ ?_; clear hK K) | refine walkL_nil ?_ | refine walkL_ret ?_ | refine walkL_exit ?_ | refine blockA_here ?_ | refine blockA_other rfl ?_ | refine blockA_ret ?_ | refine blockA_normal ?_ | refine thenA_ret ?_ | refine thenA_exit ?_ | refine thenA_normal ?_)
    refine walkL_cond rfl (fun hb => ?_) (fun hb => ?_)
    · have hlt : i < l.length := by simpa using hb
      have hw : IntKind.i64.wrap ((i : Int) + 1) = ((i + 1 : Nat) : Int) := by rw [wr_small (by omega)]; simp
      obtain ⟨r, hx⟩ : ∃ r, l[i]? = some r := ⟨_, List.getElem?_eq_getElem hlt⟩
      have g1 := spanRows_at hx
      have c := f101 n r
      rw [Span.row] at g1 c
      cases q : withinB n r.lo r.hi
      · rw [q] at c
        repeat (first | refine walkL_true rfl ?_ | refine walkL_false rfl ?_ | refine walkL_seq ?_ | refine walkL_skip ?_ | refine walkL_block ?_ | (refine walkL_region fun K hK => ?_; simp (maxSteps := 4000000) only [go_sem, g1, hw]; (repeat (first | (refine ⟨_, .lent (hf := c) (hd := rfl) (hr := rfl), ?_⟩; simp (maxSteps := 4000000) only [go_sem, g1, hw]) | (refine ⟨_, .given (hf := c) (hd := rfl) (ha := rfl), ?_⟩; simp (maxSteps := 4000000) only [go_sem, g1, hw]))); refine hK _ ?_; clear hK K) | refine walkL_nil ?_ | refine walkL_ret ?_ | refine walkL_exit ?_ | refine blockA_here ?_ | refine blockA_other rfl ?_ | refine blockA_ret ?_ | refine blockA_normal ?_ | refine thenA_ret ?_ | refine thenA_exit ?_ | refine thenA_normal ?_)
        refine ⟨rfl, i + 1, ?_, ⟨hlt, any_take_succ hx hall q⟩, by omega⟩
        refine weak_of [] ?_ ?_ rfl rfl <;> simp [lessT, lessM, lessB, AV.less]
      · have e : (l.any fun s => withinB n s.lo s.hi) = true := List.any_eq_true.2 ⟨r, List.mem_of_getElem? hx, q⟩
        rw [e]
        rw [q] at c
        repeat (first | refine walkL_true rfl ?_ | refine walkL_false rfl ?_ | refine walkL_seq ?_ | refine walkL_skip ?_ | refine walkL_block ?_ | (refine walkL_region fun K hK => ?_; simp (maxSteps := 4000000) only [go_sem, g1]; (repeat (first | (refine ⟨_, .lent (hf := c) (hd := rfl) (hr := rfl), ?_⟩; simp (maxSteps := 4000000) only [go_sem, g1]) | (refine ⟨_, .given (hf := c) (hd := rfl) (ha := rfl), ?_⟩; simp (maxSteps := 4000000) only [go_sem, g1]))); refine hK _ ?_; clear hK K) | refine walkL_nil ?_ | refine walkL_ret ?_ | refine walkL_exit ?_ | refine blockA_here ?_ | refine blockA_other rfl ?_ | refine blockA_ret ?_ | refine blockA_normal ?_ | refine thenA_ret ?_ | refine thenA_exit ?_ | refine thenA_normal ?_)
        simp (maxSteps := 4000000) only [go_sem]
    · have he : i = l.length := by (have : ¬ i < l.length := by simpa using hb); omega
      subst he
      rw [List.take_length] at hall
      rw [hall]
      repeat (first | refine walkL_seq ?_ | refine walkL_skip ?_ | refine walkL_block ?_ | (refine walkL_region fun K hK => ?_; simp (maxSteps := 4000000) only [go_sem]; refine hK _ ?_; clear hK K) | refine walkL_nil ?_ | refine walkL_ret ?_ | refine walkL_exit ?_ | refine blockA_here ?_ | refine blockA_other rfl ?_ | refine blockA_ret ?_ | refine blockA_normal ?_ | refine thenA_ret ?_ | refine thenA_exit ?_ | refine thenA_normal ?_)
      simp (maxSteps := 4000000) only [go_sem]
def needL (p open_ h : Int) (l : Limits) (x : Rule) : Limits := if (x.path == p) && decide (open_ - x.after ≤ h) then andL l x.lim else l
theorem need_lim (rules : List Rule) (p open_ h : Int) : ∀ l : Limits, rules.foldl (needL p open_ h) l = (ofPath rules p).foldl (fun l x => if decide (open_ - x.after ≤ h) then andL l x.lim else l) l := by
  induction rules with
  | nil => intro l; rfl
  | cons x rules ih =>
    intro l
    rw [List.foldl_cons, ih]
    unfold ofPath
    rw [List.filter_cons]
    cases hp : (x.path == p)
    · simp [needL, hp]
    · simp [needL, hp]
def canL (l : Limits) : Bool := decide (l.temp.lo ≤ l.temp.hi)
theorem can_and (a b : Limits) : (canL a && canL (andL a b)) = canL (andL a b) := by
  unfold canL andL
  rw [← Bool.decide_and]
  apply decide_eq_decide.2
  dsimp only
  omega
theorem f141 (rules : List Rule) (p : Int) (o h : Nat) (ha : ∀ x ∈ rules, 0 ≤ x.after ∧ x.after ≤ 48) (hh : h ≤ o) (ho : o < 2 ^ 30) (hr : rules.length < 2 ^ 30) :
    Fn Tryz.prog 141 [.sl (ruleRows rules), .i p, .i o, .i h] (.tup [.agg (limF (ofPath rules p) (h : Int) (o : Int)).row, .bool (canL (limF (ofPath rules p) (h : Int) (o : Int)))]) := by
  have e0 : limF (ofPath rules p) (h : Int) (o : Int) = rules.foldl (needL p o h) wideL := (need_lim rules p o h wideL).symm
  rw [e0]
  have h159 := f159
  have hc0 : canL wideL = true := by decide
  refine fn_walk 58 Tryz.call141 Tryz.func141 rfl (by decide) fun J => ?_
  simp (maxSteps := 4000000) only [go_sem, St.start, Tryz.ntmps141, Tryz.results141]
  rw [Limits.row] at h159
  repeat (first | refine walkL_seq ?_ | refine walkL_skip ?_ | refine walkL_block ?_ | (refine walkL_region fun K hK => ?_; simp (maxSteps := 4000000) only [go_sem]; (repeat (first | (refine ⟨_, .lent (hf := h159) (hd := rfl) (hr := rfl), ?_⟩; simp (maxSteps := 4000000) only [go_sem]) | (refine ⟨_, .given (hf := h159) (hd := rfl) (ha := rfl), ?_⟩; simp (maxSteps := 4000000) only [go_sem]))); refine hK _ ?_; clear hK K) | refine walkL_nil ?_ | refine walkL_ret ?_ | refine walkL_exit ?_ | refine blockA_here ?_ | refine blockA_other rfl ?_ | refine blockA_ret ?_ | refine blockA_normal ?_ | refine thenA_ret ?_ | refine thenA_exit ?_ | refine thenA_normal ?_)
  refine walkL_loopS (fun (i : Nat) => [(12, .d (.i i)), (11, .d (.bool (canL ((rules.take i).foldl (needL p o h) wideL)))), (13, .undef), (14, .undef)]) (fun i => [(10, some (.box (((rules.take i).foldl (needL p o h) wideL).row.map AV.d)))]) (fun i => i ≤ rules.length) (fun i => rules.length - i) 0 ?_ (Nat.zero_le _) ?_
  · simp (maxSteps := 4000000) only [go_sem, List.take_zero, List.foldl_nil, Limits.row, List.map_cons, List.map_nil, hc0]
    refine weak_of [] ?_ ?_ rfl rfl <;> simp [lessT, lessM, lessB, AV.less]
    all_goals first | done | rfl | exact ⟨rfl, rfl⟩ | exact ⟨rfl, rfl, rfl, rfl⟩
  · intro i hi
    obtain ⟨a, ha0⟩ : ∃ a, a = (rules.take i).foldl (needL p o h) wideL := ⟨_, rfl⟩
    rw [← ha0]
    simp (maxSteps := 4000000) only [go_sem, Limits.row, List.map_cons, List.map_nil]
    repeat (first | refine walkL_seq ?_ | refine walkL_skip ?_ | refine walkL_block ?_ | (refine walkL_region fun K hK => ?_; simp (maxSteps := 4000000) only [go_sem]; refine hK _ ?_; clear hK K) | refine walkL_nil ?_ | refine walkL_ret ?_ | refine walkL_exit ?_ | refine blockA_here ?_ | refine blockA_other rfl ?_ | refine blockA_ret ?_ | refine blockA_normal ?_ | refine thenA_ret ?_ | refine thenA_exit ?_ | refine thenA_normal ?_)
    refine walkL_cond rfl (fun hb => ?_) (fun hb => ?_)
    · have hlt : i < rules.length := by simpa using hb
      have hw : IntKind.i64.wrap ((i : Int) + 1) = ((i + 1 : Nat) : Int) := by rw [wr_small (by omega)]; simp
      obtain ⟨x, hx⟩ : ∃ x, rules[i]? = some x := ⟨_, List.getElem?_eq_getElem hlt⟩
      have g1 := ruleRows_at hx
      rw [Rule.row] at g1
      have hax := ha x (List.mem_of_getElem? hx)
      have w1 : IntKind.i64.wrap ((o : Int) - x.after) = (o : Int) - x.after := wr_small (by omega)
      have n1 : (rules.take (i + 1)).foldl (needL p o h) wideL = needL p o h a x := by rw [ha0]; exact foldl_take_succ _ _ _ _ _ hx
      have c72 := f72 (h : Int) ((o : Int) - x.after) o
      have e72 : withinB (h : Int) ((o : Int) - x.after) o = decide ((o : Int) - x.after ≤ (h : Int)) := by
        by_cases hd : (o : Int) - x.after ≤ (h : Int)
        · rw [decide_eq_true hd]; exact within_iff.2 ⟨hd, by omega⟩
        · rw [decide_eq_false hd]
          cases hw : withinB (h : Int) ((o : Int) - x.after) o
          · rfl
          · exact absurd (within_iff.1 hw).1 hd
      rw [e72] at c72
      have c160 := f160 a x.lim
      have hca := can_and a x.lim
      have nv : needL p o h a x = if (x.path == p) && decide ((o : Int) - x.after ≤ (h : Int)) then andL a x.lim else a := rfl
      obtain ⟨b, hb1⟩ : ∃ b, b = andL a x.lim := ⟨_, rfl⟩
      rw [← hb1] at c160 nv hca
      change Fn _ 160 _ (.tup [_, .bool (canL b)]) at c160
      obtain ⟨ca, hca0⟩ : ∃ c, c = canL a := ⟨_, rfl⟩
      obtain ⟨cb, hcb0⟩ : ∃ c, c = canL b := ⟨_, rfl⟩
      rw [← hca0] at hca ⊢
      rw [← hcb0] at hca c160
      simp only [Limits.row] at c160
      cases qp : (x.path == p)
      · rw [qp] at nv
        simp only [Bool.false_and, Bool.false_eq_true, if_false] at nv
        repeat (first | refine walkL_true rfl ?_ | refine walkL_false rfl ?_ | refine walkL_seq ?_ | refine walkL_skip ?_ | refine walkL_block ?_ | (refine walkL_region fun K hK => ?_; simp (maxSteps := 4000000) only [go_sem, g1, qp, hw]; refine hK _ ?_; clear hK K) | refine walkL_nil ?_ | refine walkL_ret ?_ | refine walkL_exit ?_ | refine blockA_here ?_ | refine blockA_other rfl ?_ | refine blockA_ret ?_ | refine blockA_normal ?_ | refine thenA_ret ?_ | refine thenA_exit ?_ | refine thenA_normal ?_)
        refine ⟨rfl, i + 1, ?_, hlt, by omega⟩
        rw [n1, nv, ← hca0]
        refine weak_of [] ?_ ?_ rfl rfl <;> simp [lessT, lessM, lessB, AV.less]
        all_goals first | done | rfl | simp [Limits.row]
      · rw [qp] at nv
        cases qd : decide ((o : Int) - x.after ≤ (h : Int))
        · rw [qd] at nv c72
          simp only [Bool.and_false, Bool.false_eq_true, if_false] at nv
          repeat (first | refine walkL_true rfl ?_ | refine walkL_false rfl ?_ | refine walkL_seq ?_ | refine walkL_skip ?_ | refine walkL_block ?_ | (refine walkL_region fun K hK => ?_; simp (maxSteps := 4000000) only [go_sem, g1, qp, w1, hw]; (repeat (first | (refine ⟨_, .lent (hf := c72) (hd := rfl) (hr := rfl), ?_⟩; simp (maxSteps := 4000000) only [go_sem, g1, qp, w1, hw]) | (refine ⟨_, .given (hf := c72) (hd := rfl) (ha := rfl), ?_⟩; simp (maxSteps := 4000000) only [go_sem, g1, qp, w1, hw]))); refine hK _ ?_; clear hK K) | refine walkL_nil ?_ | refine walkL_ret ?_ | refine walkL_exit ?_ | refine blockA_here ?_ | refine blockA_other rfl ?_ | refine blockA_ret ?_ | refine blockA_normal ?_ | refine thenA_ret ?_ | refine thenA_exit ?_ | refine thenA_normal ?_)
          refine ⟨rfl, i + 1, ?_, hlt, by omega⟩
          rw [n1, nv, ← hca0]
          refine weak_of [] ?_ ?_ rfl rfl <;> simp [lessT, lessM, lessB, AV.less]
          all_goals first | done | rfl | simp [Limits.row]
        · rw [qd] at nv c72
          simp only [Bool.and_true, if_true] at nv
          repeat (first | refine walkL_true rfl ?_ | refine walkL_false rfl ?_ | refine walkL_seq ?_ | refine walkL_skip ?_ | refine walkL_block ?_ | (refine walkL_region fun K hK => ?_; simp (maxSteps := 4000000) only [go_sem, g1, qp, w1]; (repeat (first | (refine ⟨_, .lent (hf := c72) (hd := rfl) (hr := rfl), ?_⟩; simp (maxSteps := 4000000) only [go_sem, g1, qp, w1]) | (refine ⟨_, .given (hf := c72) (hd := rfl) (ha := rfl), ?_⟩; simp (maxSteps := 4000000) only [go_sem, g1, qp, w1]))); refine hK _ ?_; clear hK K) | refine walkL_nil ?_ | refine walkL_ret ?_ | refine walkL_exit ?_ | refine blockA_here ?_ | refine blockA_other rfl ?_ | refine blockA_ret ?_ | refine blockA_normal ?_ | refine thenA_ret ?_ | refine thenA_exit ?_ | refine thenA_normal ?_)
          refine walkL_drawn (by kernel_rfl) (by kernel_rfl) fun K hK => ?_
          simp (maxSteps := 4000000) only [go_sem, g1]
          refine ⟨_, .fn (hf := c160) (hd := rfl) (hr := .inl rfl), ?_⟩
          simp (maxSteps := 4000000) only [go_sem]
          refine ⟨by kernel_rfl, hK _ ?_⟩
          clear hK K
          cases ca
          · have hcb : cb = false := by cases cb; rfl; simp at hca
            subst hcb
            repeat (first | refine walkL_true rfl ?_ | refine walkL_false rfl ?_ | refine walkL_seq ?_ | refine walkL_skip ?_ | refine walkL_block ?_ | (refine walkL_region fun K hK => ?_; simp (maxSteps := 4000000) only [go_sem, hw]; refine hK _ ?_; clear hK K) | refine walkL_nil ?_ | refine walkL_ret ?_ | refine walkL_exit ?_ | refine blockA_here ?_ | refine blockA_other rfl ?_ | refine blockA_ret ?_ | refine blockA_normal ?_ | refine thenA_ret ?_ | refine thenA_exit ?_ | refine thenA_normal ?_)
            refine ⟨rfl, i + 1, ?_, hlt, by omega⟩
            rw [n1, nv, ← hcb0]
            refine weak_of [] ?_ ?_ rfl rfl <;> simp [lessT, lessM, lessB, AV.less]
            all_goals first | done | rfl | simp [Limits.row]
          · repeat (first | refine walkL_true rfl ?_ | refine walkL_false rfl ?_ | refine walkL_seq ?_ | refine walkL_skip ?_ | refine walkL_block ?_ | (refine walkL_region fun K hK => ?_; simp (maxSteps := 4000000) only [go_sem, hw]; refine hK _ ?_; clear hK K) | refine walkL_nil ?_ | refine walkL_ret ?_ | refine walkL_exit ?_ | refine blockA_here ?_ | refine blockA_other rfl ?_ | refine blockA_ret ?_ | refine blockA_normal ?_ | refine thenA_ret ?_ | refine thenA_exit ?_ | refine thenA_normal ?_)
            refine ⟨rfl, i + 1, ?_, hlt, by omega⟩
            rw [n1, nv, ← hcb0]
            refine weak_of [] ?_ ?_ rfl rfl <;> simp [lessT, lessM, lessB, AV.less]
            all_goals first | done | rfl | simp [Limits.row]
    · have he : i = rules.length := by (have : ¬ i < rules.length := by simpa using hb); omega
      subst he
      rw [List.take_length] at ha0
      rw [← ha0]
      repeat (first | refine walkL_seq ?_ | refine walkL_skip ?_ | refine walkL_block ?_ | (refine walkL_region fun K hK => ?_; simp (maxSteps := 4000000) only [go_sem]; refine hK _ ?_; clear hK K) | refine walkL_nil ?_ | refine walkL_ret ?_ | refine walkL_exit ?_ | refine blockA_here ?_ | refine blockA_other rfl ?_ | refine blockA_ret ?_ | refine blockA_normal ?_ | refine thenA_ret ?_ | refine thenA_exit ?_ | refine thenA_normal ?_)
      simp (maxSteps := 4000000) only [go_sem, Limits.row]
      try rfl
theorem always_can {l : Limits} {h : Hour} (hh : h.temp.lo ≤ h.temp.hi) : (canL l && alwaysB l h) = alwaysB l h := by
  cases ha : alwaysB l h
  · simp
  · unfold alwaysB at ha
    simp only [Bool.and_eq_true, decide_eq_true_eq] at ha
    rw [Bool.and_true]
    exact decide_eq_true (by omega)
theorem ever_can {l : Limits} {h : Hour} (hh : h.temp.lo ≤ h.temp.hi) : (canL l && mayB l h) = everB l h := by
  unfold canL mayB everB
  simp only [← Bool.decide_and]
  apply decide_eq_decide.2
  omega
theorem f94 (F : List (List Hour)) (seen : List Sight) (rules : List Rule) (k : Int) (lk : List Hour) (p : Int) (o : Nat) (hg : ForeGood F) (hsi : sightsB (hd0 F).length seen = true) (hk : 0 ≤ k) (hl : F[k.toNat]? = some lk)
    (ha : ∀ x ∈ rules, 0 ≤ x.after ∧ x.after ≤ 48) (hr : rules.length < 2 ^ 30) (ho : o < lk.length) :
    Fn Tryz.prog 94 [.sl (ruleRows rules), .agg [.sl (scenRows F)], .sl (sightRows seen), .i k, .i p, .i o] (.tup [.bool (keepsB alwaysB (ofPath rules p) (seenHours seen lk) o), .bool (keepsB everB (ofPath rules p) (seenHours seen lk) o)]) := by
  have hsp := sights_spec hsi
  have hF := hg.scen
  have hH := hg.hours
  have hll := hg.len lk (List.mem_of_getElem? hl)
  have hSl := seenHours_len seen lk
  have hat : ∀ i : Nat, i < lk.length → atF seen lk (i : Int) = hourAt (seenHours seen lk) (i : Int) := fun i hi => atF_eq (seen := seen) (l := lk) (fun s hs => by have := hsp.1 s hs; omega) hsp.2.1 i
  have hget : ∀ i : Nat, i < lk.length → (seenHours seen lk)[i]? = some (hourAt (seenHours seen lk) (i : Int)) := fun i hi => by
    have := hourAt_get (l := seenHours seen lk) (i := (i : Int)) ⟨by omega, by simp; omega⟩
    simpa using this
  have htmp : ∀ i : Nat, i < lk.length → (hourAt (seenHours seen lk) (i : Int)).temp.lo ≤ (hourAt (seenHours seen lk) (i : Int)).temp.hi := fun i hi =>
    hour_temp (seen_hour hg hsi (List.mem_of_getElem? hl) _ (List.mem_of_getElem? (hget i hi)))
  obtain ⟨S, hS⟩ : ∃ S, S = seenHours seen lk := ⟨_, rfl⟩
  rw [← hS] at hSl hat htmp ⊢
  clear hget
  obtain ⟨R, hR⟩ : ∃ R, R = ofPath rules p := ⟨_, rfl⟩
  obtain ⟨qa, hqa⟩ : ∃ q : Nat → Bool, q = fun (b : Nat) => alwaysB (limF R (b : Int) (o : Int)) (hourAt S (b : Int)) := ⟨_, rfl⟩
  obtain ⟨qe, hqe⟩ : ∃ q : Nat → Bool, q = fun (b : Nat) => everB (limF R (b : Int) (o : Int)) (hourAt S (b : Int)) := ⟨_, rfl⟩
  have ea : keepsB alwaysB R S o = (List.range (o + 1)).all qa := by rw [hqa]; rfl
  have ee : keepsB everB R S o = (List.range (o + 1)).all qe := by rw [hqe]; rfl
  rw [← hR, ea, ee]
  refine fn_walk 56 Tryz.call94 Tryz.func94 rfl (by decide) fun J => ?_
  simp (maxSteps := 4000000) only [go_sem, St.start, Tryz.ntmps94, Tryz.results94]
  repeat (first | refine walkL_seq ?_ | refine walkL_skip ?_ | refine walkL_block ?_ | (refine walkL_region fun K hK => ?_; simp (maxSteps := 4000000) only [go_sem]; refine hK _ ?_; clear hK K) | refine walkL_nil ?_ | refine walkL_ret ?_ | refine walkL_exit ?_ | refine blockA_here ?_ | refine blockA_other rfl ?_ | refine blockA_ret ?_ | refine blockA_normal ?_ | refine thenA_ret ?_ | refine thenA_exit ?_ | refine thenA_normal ?_)
  refine walkL_loopS (fun (i : Nat) => [(14, .d (.i i)), (12, .d (.bool ((List.range i).all qa))), (13, .d (.bool ((List.range i).all qe))), (15, .undef), (16, .undef), (17, .undef)]) (fun _ => []) (fun i => i ≤ o + 1) (fun i => o + 1 - i) 0 ?_ (Nat.zero_le _) ?_
  · simp (maxSteps := 4000000) only [go_sem]
    refine weak_of [] ?_ ?_ rfl rfl <;> simp [lessT, lessM, lessB, AV.less]
    all_goals first | done | rfl | exact ⟨rfl, rfl⟩
  · intro i hi
    simp (maxSteps := 4000000) only [go_sem]
    repeat (first | refine walkL_seq ?_ | refine walkL_skip ?_ | refine walkL_block ?_ | (refine walkL_region fun K hK => ?_; simp (maxSteps := 4000000) only [go_sem]; refine hK _ ?_; clear hK K) | refine walkL_nil ?_ | refine walkL_ret ?_ | refine walkL_exit ?_ | refine blockA_here ?_ | refine blockA_other rfl ?_ | refine blockA_ret ?_ | refine blockA_normal ?_ | refine thenA_ret ?_ | refine thenA_exit ?_ | refine thenA_normal ?_)
    refine walkL_cond rfl (fun hb => ?_) (fun hb => ?_)
    · have hlt : i < o + 1 := by have := of_decide_eq_true hb; omega
      have hw : IntKind.i64.wrap ((i : Int) + 1) = ((i + 1 : Nat) : Int) := by rw [wr_small (by omega)]; simp
      have c141 := f141 rules p o i ha (by omega) (by omega) hr
      have c117 := f117 F seen lk k (i : Int) (by omega) hk hl ⟨by omega, by simp; omega⟩
      rw [hat i (by omega)] at c117
      have n1 := range_all_succ qa i
      have n2 := range_all_succ qe i
      have ht := htmp i (by omega)
      rw [← hR] at c141
      have t1 : qa i = alwaysB (limF R (i : Int) (o : Int)) (hourAt S (i : Int)) := by rw [hqa]
      have t2 : qe i = everB (limF R (i : Int) (o : Int)) (hourAt S (i : Int)) := by rw [hqe]
      obtain ⟨L, hL⟩ : ∃ L, L = limF R (i : Int) (o : Int) := ⟨_, rfl⟩
      obtain ⟨x, hx⟩ : ∃ x, x = hourAt S (i : Int) := ⟨_, rfl⟩
      rw [← hL] at c141
      rw [← hx] at c117 ht
      rw [← hL, ← hx] at t1 t2
      rw [← always_can ht] at t1
      rw [← ever_can ht] at t2
      have c118 := f118 L x
      have c119 := f119 L x
      simp only [Limits.row] at c141 c118 c119
      simp only [Hour.row] at c117 c118 c119
      rw [t1] at n1
      rw [t2] at n2
      obtain ⟨u, hu⟩ : ∃ u, u = alwaysB L x := ⟨_, rfl⟩
      obtain ⟨v, hv⟩ : ∃ v, v = mayB L x := ⟨_, rfl⟩
      obtain ⟨c, hc⟩ : ∃ c, c = canL L := ⟨_, rfl⟩
      rw [← hu] at c118 n1
      rw [← hv] at c119 n2
      rw [← hc] at c141 n1 n2
      obtain ⟨A, hA⟩ : ∃ A, A = (List.range i).all qa := ⟨_, rfl⟩
      obtain ⟨B, hB⟩ : ∃ B, B = (List.range i).all qe := ⟨_, rfl⟩
      rw [← hA] at n1 ⊢
      rw [← hB] at n2 ⊢
      cases A <;> cases B <;> cases c
      all_goals
        simp only [Bool.false_and, Bool.true_and] at n1 n2
        repeat (first | refine walkL_true rfl ?_ | refine walkL_false rfl ?_ | refine walkL_seq ?_ | refine walkL_skip ?_ | refine walkL_block ?_ | (refine walkL_region fun K hK => ?_; simp (maxSteps := 4000000) only [go_sem, hw]; (repeat (first | (refine ⟨_, .lent (hf := c141) (hd := rfl) (hr := rfl), ?_⟩; simp (maxSteps := 4000000) only [go_sem, hw]) | (refine ⟨_, .lent (hf := c117) (hd := rfl) (hr := rfl), ?_⟩; simp (maxSteps := 4000000) only [go_sem, hw]) | (refine ⟨_, .lent (hf := c118) (hd := rfl) (hr := rfl), ?_⟩; simp (maxSteps := 4000000) only [go_sem, hw]) | (refine ⟨_, .lent (hf := c119) (hd := rfl) (hr := rfl), ?_⟩; simp (maxSteps := 4000000) only [go_sem, hw]) | (refine ⟨_, .given (hf := c141) (hd := rfl) (ha := rfl), ?_⟩; simp (maxSteps := 4000000) only [go_sem, hw]) | (refine ⟨_, .given (hf := c117) (hd := rfl) (ha := rfl), ?_⟩; simp (maxSteps := 4000000) only [go_sem, hw]) | (refine ⟨_, .given (hf := c118) (hd := rfl) (ha := rfl), ?_⟩; simp (maxSteps := 4000000) only [go_sem, hw]) | (refine ⟨_, .given (hf := c119) (hd := rfl) (ha := rfl), ?_⟩; simp (maxSteps := 4000000) only [go_sem, hw]))); refine hK _ ?_; clear hK K) | refine walkL_nil ?_ | refine walkL_ret ?_ | refine walkL_exit ?_ | refine blockA_here ?_ | refine blockA_other rfl ?_ | refine blockA_ret ?_ | refine blockA_normal ?_ | refine thenA_ret ?_ | refine thenA_exit ?_ | refine thenA_normal ?_)
        refine ⟨rfl, i + 1, ?_, by omega, by omega⟩
        rw [n1, n2]
        refine weak_of [] ?_ ?_ rfl rfl <;> simp [lessT, lessM, lessB, AV.less]
        all_goals first | done | rfl | exact ⟨rfl, rfl⟩
    · have he : i = o + 1 := by have := of_decide_eq_false hb; omega
      subst he
      repeat (first | refine walkL_seq ?_ | refine walkL_skip ?_ | refine walkL_block ?_ | (refine walkL_region fun K hK => ?_; simp (maxSteps := 4000000) only [go_sem]; refine hK _ ?_; clear hK K) | refine walkL_nil ?_ | refine walkL_ret ?_ | refine walkL_exit ?_ | refine blockA_here ?_ | refine blockA_other rfl ?_ | refine blockA_ret ?_ | refine blockA_normal ?_ | refine thenA_ret ?_ | refine thenA_exit ?_ | refine thenA_normal ?_)
      simp (maxSteps := 4000000) only [go_sem]
      try rfl
end Go.Ab
namespace Go.Ab
open Go.RowKit Go.Proofs
set_option maxHeartbeats 16000000
set_option maxRecDepth 20000
attribute [local irreducible] WalkL Walk
def hrsA (rules : List Rule) (S : List (List Hour)) (H : Nat) : List Bool := (List.range H).map fun (h : Nat) => S.all fun s => keepsB alwaysB rules s h
def hrsE (rules : List Rule) (S : List (List Hour)) (H : Nat) : List Bool := (List.range H).map fun (h : Nat) => S.any fun s => keepsB everB rules s h
theorem hrsA_len (rules : List Rule) (S : List (List Hour)) (H : Nat) : (hrsA rules S H).length = H := by simp [hrsA]
theorem hrsE_len (rules : List Rule) (S : List (List Hour)) (H : Nat) : (hrsE rules S H).length = H := by simp [hrsE]
theorem f44 (F : List (List Hour)) (seen : List Sight) (rules : List Rule) (p : Int) (hg : ForeGood F) (hsi : sightsB (hd0 F).length seen = true)
    (ha : ∀ x ∈ rules, 0 ≤ x.after ∧ x.after ≤ 48) (hr : rules.length < 2 ^ 30) :
    Fn Tryz.prog 44 [.sl (ruleRows rules), .agg [.sl (scenRows F)], .sl (sightRows seen), .i p]
      (.tup [.sl (boolRows (hrsA (ofPath rules p) (scensOf (possL F seen)) (hd0 F).length)), .sl (boolRows (hrsE (ofPath rules p) (scensOf (possL F seen)) (hd0 F).length))]) := by
  have hF := hg.scen
  have hH := hg.hours
  have hpl : (possL F seen).length ≤ F.length := possFrom_len _ _ _
  have h57 := f57 F seen hg hsi
  have h30 := f30 F (hd0 F) (headD_get (by omega))
  have key : ∀ (o : Nat), o < (hd0 F).length → ∀ (i : Nat) s, (scensOf (possL F seen))[i]? = some s → ∃ k, (numsOf (possL F seen))[i]? = some k ∧ 0 ≤ k ∧
      Fn Tryz.prog 94 [.sl (ruleRows rules), .agg [.sl (scenRows F)], .sl (sightRows seen), .i k, .i p, .i o] (.tup [.bool (keepsB alwaysB (ofPath rules p) s o), .bool (keepsB everB (ofPath rules p) s o)]) := by
    intro o ho i s hs
    obtain ⟨k, hk⟩ : ∃ k, (numsOf (possL F seen))[i]? = some k := ⟨_, List.getElem?_eq_getElem (by rw [nums_len, ← scens_len]; exact (List.getElem?_eq_some_iff.1 hs).1)⟩
    obtain ⟨k0, lk, hlk, _, _, hpi⟩ := nums_get hk
    have e : s = seenHours seen lk := by
      rw [scensOf, List.getElem?_map, hpi] at hs
      simp at hs
      exact hs.symm
    have h94 := f94 F seen rules k lk p o hg hsi k0 hlk ha hr (by rw [hg.len lk (List.mem_of_getElem? hlk)]; exact ho)
    rw [← e] at h94
    exact ⟨k, hk, k0, h94⟩
  have hlen : (numsOf (possL F seen)).length = (scensOf (possL F seen)).length := by rw [nums_len, scens_len]
  have hfew : (scensOf (possL F seen)).length ≤ 6 := by rw [scens_len]; omega
  obtain ⟨N, hN⟩ : ∃ N, N = numsOf (possL F seen) := ⟨_, rfl⟩
  obtain ⟨S, hS⟩ : ∃ S, S = scensOf (possL F seen) := ⟨_, rfl⟩
  obtain ⟨H, hHe⟩ : ∃ H, H = (hd0 F).length := ⟨_, rfl⟩
  obtain ⟨R, hR⟩ : ∃ R, R = ofPath rules p := ⟨_, rfl⟩
  rw [← hN, ← hS, ← hHe] at key
  rw [← hR] at key
  rw [← hS, ← hHe, ← hR]
  rw [← hN] at h57 hlen
  rw [← hS] at hlen hfew
  rw [← hHe] at h30 hH
  refine fn_walk 63 Tryz.call44 Tryz.func44 rfl (by decide) fun J => ?_
  simp (maxSteps := 4000000) only [go_sem, St.start, Tryz.ntmps44, Tryz.results44]
  repeat (first | refine walkL_seq ?_ | refine walkL_skip ?_ | refine walkL_block ?_ | (refine walkL_region fun K hK => ?_; simp (maxSteps := 4000000) only [go_sem]; (repeat (first | (refine ⟨_, .lent (hf := h57) (hd := rfl) (hr := rfl), ?_⟩; simp (maxSteps := 4000000) only [go_sem]) | (refine ⟨_, .given (hf := h57) (hd := rfl) (ha := rfl), ?_⟩; simp (maxSteps := 4000000) only [go_sem]))); refine hK _ ?_; clear hK K) | refine walkL_nil ?_ | refine walkL_ret ?_ | refine walkL_exit ?_ | refine blockA_here ?_ | refine blockA_other rfl ?_ | refine blockA_ret ?_ | refine blockA_normal ?_ | refine thenA_ret ?_ | refine thenA_exit ?_ | refine thenA_normal ?_)
  refine walkL_loopS (fun (h : Nat) => [(11, .d (.i h)), (8, .own 56), (9, .own 60), (12, .undef), (13, .undef), (14, .undef), (15, .undef), (16, .undef)]) (fun h => [(56, some (.arr 4 1 (boolRows (hrsA R S h)))), (60, some (.arr 4 1 (boolRows (hrsE R S h))))]) (fun h => h ≤ H) (fun h => H - h) 0 ?_ (Nat.zero_le _) ?_
  · simp (maxSteps := 4000000) only [go_sem]
    refine weak_of [56, 60] ?_ ?_ rfl rfl <;> simp [lessT, lessM, lessB, AV.less]
    all_goals first | done | rfl | exact ⟨rfl, rfl⟩
  · intro h hh
    simp (maxSteps := 4000000) only [go_sem]
    repeat (first | refine walkL_seq ?_ | refine walkL_skip ?_ | refine walkL_block ?_ | (refine walkL_region fun K hK => ?_; simp (maxSteps := 4000000) only [go_sem]; (repeat (first | (refine ⟨_, .lent (hf := h30) (hd := rfl) (hr := rfl), ?_⟩; simp (maxSteps := 4000000) only [go_sem]) | (refine ⟨_, .given (hf := h30) (hd := rfl) (ha := rfl), ?_⟩; simp (maxSteps := 4000000) only [go_sem]))); refine hK _ ?_; clear hK K) | refine walkL_nil ?_ | refine walkL_ret ?_ | refine walkL_exit ?_ | refine blockA_here ?_ | refine blockA_other rfl ?_ | refine blockA_ret ?_ | refine blockA_normal ?_ | refine thenA_ret ?_ | refine thenA_exit ?_ | refine thenA_normal ?_)
    refine walkL_cond rfl (fun hb => ?_) (fun hb => ?_)
    · have hlth : h < H := by simpa using hb
      have hwh : IntKind.i64.wrap ((h : Int) + 1) = ((h + 1 : Nat) : Int) := by rw [wr_small (by omega)]; simp
      have hA1 : hrsA R S (h + 1) = hrsA R S h ++ [S.all fun s => keepsB alwaysB R s h] := by unfold hrsA; rw [List.range_succ]; simp
      have hE1 : hrsE R S (h + 1) = hrsE R S h ++ [S.any fun s => keepsB everB R s h] := by unfold hrsE; rw [List.range_succ]; simp
      have hAl := hrsA_len R S h
      have hEl := hrsE_len R S h
      obtain ⟨A, hA⟩ : ∃ A, A = hrsA R S h := ⟨_, rfl⟩
      obtain ⟨E, hE⟩ : ∃ E, E = hrsE R S h := ⟨_, rfl⟩
      rw [← hA] at hA1 hAl ⊢
      rw [← hE] at hE1 hEl ⊢
      have hn1 : A.length + 1 ≤ 549755813888 := by omega
      have hn2 : E.length + 1 ≤ 549755813888 := by omega
      repeat (first | refine walkL_seq ?_ | refine walkL_skip ?_ | refine walkL_block ?_ | (refine walkL_region fun K hK => ?_; simp (maxSteps := 4000000) only [go_sem]; refine hK _ ?_; clear hK K) | refine walkL_nil ?_ | refine walkL_ret ?_ | refine walkL_exit ?_ | refine blockA_here ?_ | refine blockA_other rfl ?_ | refine blockA_ret ?_ | refine blockA_normal ?_ | refine thenA_ret ?_ | refine thenA_exit ?_ | refine thenA_normal ?_)
      refine walkL_loopS (fun (i : Nat) => [(14, .d (.i i)), (12, .d (.bool ((S.take i).all fun s => keepsB alwaysB R s h))), (13, .d (.bool ((S.take i).any fun s => keepsB everB R s h))), (15, .undef), (16, .undef)]) (fun _ => []) (fun i => i ≤ S.length) (fun i => S.length - i) 0 ?_ (Nat.zero_le _) ?_
      · simp (maxSteps := 4000000) only [go_sem]
        refine weak_of [] ?_ ?_ rfl rfl <;> simp [lessT, lessM, lessB, AV.less]
        all_goals first | done | rfl | exact ⟨rfl, rfl⟩
      · intro i hi
        have wN : (N.length : Int) = (S.length : Int) := by omega
        simp (maxSteps := 4000000) only [go_sem]
        repeat (first | refine walkL_seq ?_ | refine walkL_skip ?_ | refine walkL_block ?_ | (refine walkL_region fun K hK => ?_; simp (maxSteps := 4000000) only [go_sem, intRows_len, wN]; refine hK _ ?_; clear hK K) | refine walkL_nil ?_ | refine walkL_ret ?_ | refine walkL_exit ?_ | refine blockA_here ?_ | refine blockA_other rfl ?_ | refine blockA_ret ?_ | refine blockA_normal ?_ | refine thenA_ret ?_ | refine thenA_exit ?_ | refine thenA_normal ?_)
        refine walkL_cond rfl (fun hb => ?_) (fun hb => ?_)
        · have hlt : i < S.length := by simpa using hb
          have hw : IntKind.i64.wrap ((i : Int) + 1) = ((i + 1 : Nat) : Int) := by rw [wr_small (by omega)]; simp
          obtain ⟨s, hx⟩ : ∃ s, S[i]? = some s := ⟨_, List.getElem?_eq_getElem hlt⟩
          obtain ⟨k, hk, hk0, c94⟩ := key h hlth i s hx
          have gk := intRows_at hk
          have n1 : ((S.take (i + 1)).all fun s => keepsB alwaysB R s h) = (((S.take i).all fun s => keepsB alwaysB R s h) && keepsB alwaysB R s h) := by rw [List.take_add_one, hx]; simp
          have n2 : ((S.take (i + 1)).any fun s => keepsB everB R s h) = (((S.take i).any fun s => keepsB everB R s h) || keepsB everB R s h) := by rw [List.take_add_one, hx]; simp
          obtain ⟨u, hu⟩ : ∃ u, u = keepsB alwaysB R s h := ⟨_, rfl⟩
          obtain ⟨v, hv⟩ : ∃ v, v = keepsB everB R s h := ⟨_, rfl⟩
          rw [← hu] at c94 n1
          rw [← hv] at c94 n2
          obtain ⟨a, ha0⟩ : ∃ a, a = (S.take i).all fun s => keepsB alwaysB R s h := ⟨_, rfl⟩
          obtain ⟨b, hb0⟩ : ∃ b, b = (S.take i).any fun s => keepsB everB R s h := ⟨_, rfl⟩
          rw [← ha0] at n1 ⊢
          rw [← hb0] at n2 ⊢
          cases a <;> cases b
          all_goals
            simp only [Bool.false_and, Bool.true_and, Bool.false_or, Bool.true_or] at n1 n2
            repeat (first | refine walkL_true rfl ?_ | refine walkL_false rfl ?_ | refine walkL_seq ?_ | refine walkL_skip ?_ | refine walkL_block ?_ | (refine walkL_region fun K hK => ?_; simp (maxSteps := 4000000) only [go_sem, gk, hw]; (repeat (first | (refine ⟨_, .lent (hf := c94) (hd := rfl) (hr := rfl), ?_⟩; simp (maxSteps := 4000000) only [go_sem, gk, hw]) | (refine ⟨_, .given (hf := c94) (hd := rfl) (ha := rfl), ?_⟩; simp (maxSteps := 4000000) only [go_sem, gk, hw]))); refine hK _ ?_; clear hK K) | (refine walkL_drawn (by kernel_rfl) (by kernel_rfl) fun K hK => ?_; simp (maxSteps := 4000000) only [go_sem, gk, hw]; (repeat (first | (refine ⟨_, .fn (hf := c94) (hd := rfl) (hr := .inl rfl), ?_⟩; simp (maxSteps := 4000000) only [go_sem, gk, hw]))); refine ⟨by kernel_rfl, hK _ ?_⟩; clear hK K) | refine walkL_nil ?_ | refine walkL_ret ?_ | refine walkL_exit ?_ | refine blockA_here ?_ | refine blockA_other rfl ?_ | refine blockA_ret ?_ | refine blockA_normal ?_ | refine thenA_ret ?_ | refine thenA_exit ?_ | refine thenA_normal ?_)
            refine ⟨rfl, i + 1, ?_, hlt, by omega⟩
            rw [n1, n2]
            refine weak_of [] ?_ ?_ rfl rfl <;> simp [lessT, lessM, lessB, AV.less]
            all_goals first | done | rfl | exact ⟨rfl, rfl⟩
        · have he : i = S.length := by (have : ¬ i < S.length := by simpa using hb); omega
          subst he
          rw [List.take_length]
          obtain ⟨u, hu⟩ : ∃ u, u = S.all fun s => keepsB alwaysB R s h := ⟨_, rfl⟩
          obtain ⟨v, hv⟩ : ∃ v, v = S.any fun s => keepsB everB R s h := ⟨_, rfl⟩
          rw [← hu] at hA1 ⊢
          rw [← hv] at hE1 ⊢
          repeat (first | refine walkL_seq ?_ | refine walkL_skip ?_ | refine walkL_block ?_ | (refine walkL_region fun K hK => ?_; simp (maxSteps := 4000000) only [go_sem, hn1, hn2, hwh]; refine hK _ ?_; clear hK K) | refine walkL_nil ?_ | refine walkL_ret ?_ | refine walkL_exit ?_ | refine blockA_here ?_ | refine blockA_other rfl ?_ | refine blockA_ret ?_ | refine blockA_normal ?_ | refine thenA_ret ?_ | refine thenA_exit ?_ | refine thenA_normal ?_)
          refine ⟨rfl, h + 1, ?_, hlth, by omega⟩
          rw [hA1, hE1, boolRows_push, boolRows_push]
          refine weak_of [] ?_ ?_ rfl rfl <;> simp [lessT, lessM, lessB, AV.less]
          all_goals first | done | rfl | exact ⟨rfl, rfl⟩
    · have he : H = h := by (have : ¬ h < H := by simpa using hb); omega
      subst he
      repeat (first | refine walkL_seq ?_ | refine walkL_skip ?_ | refine walkL_block ?_ | (refine walkL_region fun K hK => ?_; simp (maxSteps := 4000000) only [go_sem]; refine hK _ ?_; clear hK K) | refine walkL_nil ?_ | refine walkL_ret ?_ | refine walkL_exit ?_ | refine blockA_here ?_ | refine blockA_other rfl ?_ | refine blockA_ret ?_ | refine blockA_normal ?_ | refine thenA_ret ?_ | refine thenA_exit ?_ | refine thenA_normal ?_)
      simp (maxSteps := 4000000) only [go_sem]
      try rfl
theorem cr_any {n : Net} {rules : List Rule} {F : List (List Hour)} {seen : List Sight} {t : Bool} (hc : checkF n ≠ 0) (t' : Bool) : crE n rules F seen t = crE n rules F seen t' ∧ crE n rules F seen t ≠ 0 := by
  unfold crE
  by_cases hf : foreF F ≠ 0
  · rw [if_pos hf, if_pos hf]; exact ⟨rfl, hf⟩
  · rw [if_neg hf, if_neg hf, if_pos hc, if_pos hc]; exact ⟨rfl, hc⟩
theorem cr_told {n : Net} {rules : List Rule} {F : List (List Hour)} {seen : List Sight} {t : Bool} (h : crE n rules F seen t = 0) : t = true ∧ checkF n = 0 := by
  unfold crE at h
  split at h
  · rename_i h1; exact absurd h h1
  · split at h
    · rename_i h1; exact absurd h h1
    · rename_i h1 h2
      exact ⟨(look_all h).2.2.2.2, by simpa using h2⟩
theorem check_good {n : Net} (h : checkF n = 0) : n.Good := by
  refine good_iff.1 fun hb => ?_
  simp [checkF, hb] at h
def toldB (n : Net) (p : Int) : Bool := (checkF n == 0) && withinB p 0 ((n.paths.length : Int) - 1)
theorem within_false {n a b : Int} (h : ¬ (a ≤ n ∧ n ≤ b)) : withinB n a b = false := by
  cases hw : withinB n a b
  · rfl
  · exact absurd (within_iff.1 hw) h
theorem opn_ref (n : Net) (rules : List Rule) (F : List (List Hour)) (seen : List Sight) (p : Int) : opnF n rules F seen p =
    if crE n rules F seen (toldB n p) = 0 then (openS (ofPath rules p) (scensOf (possL F seen)) (hd0 F).length, openM (ofPath rules p) (scensOf (possL F seen)) (hd0 F).length, 0) else ([], [], crE n rules F seen (toldB n p)) := by
  unfold opnF
  rw [ruledE_cr]
  by_cases hc : checkF n = 0
  · have hg := check_good hc
    have hpl := hg.paths
    have e1 : toldB n p = withinB p 0 ((n.paths.length : Int) - 1) := by unfold toldB; rw [hc]; rfl
    by_cases hp : p < 0
    · have e2 : withinB p 0 ((n.paths.length : Int) - 1) = false := within_false (by omega)
      have e3 : withinB 24 (-1) ((n.paths.length : Int) - 1) = false := within_false (by omega)
      rw [if_pos hp, e1, e2, e3]
      have : ¬ crE n rules F seen false = 0 := fun h => by have := (cr_told h).1; cases this
      rw [if_neg this, if_neg this]
    · have e2 : withinB p (-1) ((n.paths.length : Int) - 1) = withinB p 0 ((n.paths.length : Int) - 1) := by
        by_cases hq : p ≤ (n.paths.length : Int) - 1
        · rw [within_iff.2 ⟨by omega, hq⟩, within_iff.2 ⟨by omega, hq⟩]
        · rw [within_false (by omega), within_false (by omega)]
      rw [if_neg hp, e1, e2]
  · obtain ⟨h1, h2⟩ := cr_any (rules := rules) (F := F) (seen := seen) (t := withinB (if p < 0 then 24 else p) (-1) ((n.paths.length : Int) - 1)) hc (toldB n p)
    rw [if_neg h2, h1, if_neg (h1 ▸ h2)]
theorem cr_all {n : Net} {rules : List Rule} {F : List (List Hour)} {seen : List Sight} {t : Bool} (h : crE n rules F seen t = 0) :
    ForeGood F ∧ sightsB (hd0 F).length seen = true ∧ possL F seen ≠ [] ∧ n.Good ∧ rules.length ≤ 12 ∧ (∀ x ∈ rules, (0 ≤ x.path ∧ x.path ≤ (n.paths.length : Int) - 1) ∧ (0 ≤ x.after ∧ x.after ≤ 48) ∧ limB x.lim = true) := by
  have hc := (cr_told h).2
  unfold crE at h
  split at h
  · rename_i h1; exact absurd h h1
  · rw [if_neg (by simp [hc])] at h
    obtain ⟨a, b, c, d, _⟩ := look_all h
    have hbr : badRules n rules = false := by
      cases hb : badRules n rules with
      | false => rfl
      | true => rw [hb, if_pos rfl] at d; cases d
    obtain ⟨r1, r2⟩ := rules_ok hbr
    exact ⟨a, b, c, check_good hc, r1, r2⟩
theorem f13 (n : Net) (rules : List Rule) (F : List (List Hour)) (seen : List Sight) (p : Int) (hn : n.Small) (hr : rules.length < 2 ^ 30) (hs : ForeSmall F) (hsl : seen.length < 2 ^ 30) :
    Fn Tryz.prog 13 [.agg n.cells, .sl (ruleRows rules), .agg [.sl (scenRows F)], .sl (sightRows seen), .i p] (.tup [.sl (spanRows (opnF n rules F seen p).1), .sl (spanRows (opnF n rules F seen p).2.1), .i (opnF n rules F seen p).2.2]) := by
  rw [opn_ref]
  have h42 := f42 n hn
  have h43 := f43 n p (by have := hn.paths; omega)
  have h19 := f19 n rules F seen (toldB n p) hn hr hs hsl
  unfold toldB at h19 ⊢
  rw [Net.cells_eq] at h42 h43 h19
  obtain ⟨c, hc⟩ : ∃ c, c = checkF n := ⟨_, rfl⟩
  obtain ⟨b, hb⟩ : ∃ b, b = withinB p 0 ((n.paths.length : Int) - 1) := ⟨_, rfl⟩
  rw [← hc] at h42
  rw [← hb] at h43
  rw [← hc, ← hb] at h19 ⊢
  obtain ⟨z, hz⟩ : ∃ z, z = (c == 0) := ⟨_, rfl⟩
  rw [← hz] at h19 ⊢
  obtain ⟨e, he⟩ : ∃ e, e = crE n rules F seen (z && b) := ⟨_, rfl⟩
  rw [← he] at h19 ⊢
  by_cases h0 : e = 0
  · rw [if_pos h0]
    have hz0 : (e != 0) = false := by simp [h0]
    obtain ⟨hg, hsi, hne, hnG, hrl, hro⟩ := cr_all (he.symm.trans h0)
    have ht := (cr_told (he.symm.trans h0)).1
    rw [Bool.and_eq_true] at ht
    obtain ⟨rfl, rfl⟩ := ht
    have hH := hg.hours
    have h44 := f44 F seen rules p hg hsi (fun x hx => (hro x hx).2.1) hr
    obtain ⟨A, hA⟩ : ∃ A, A = hrsA (ofPath rules p) (scensOf (possL F seen)) (hd0 F).length := ⟨_, rfl⟩
    obtain ⟨B, hB⟩ : ∃ B, B = hrsE (ofPath rules p) (scensOf (possL F seen)) (hd0 F).length := ⟨_, rfl⟩
    have lA : A.length = (hd0 F).length := by rw [hA, hrsA_len]
    have lB : B.length = (hd0 F).length := by rw [hB, hrsE_len]
    have eA : openS (ofPath rules p) (scensOf (possL F seen)) (hd0 F).length = spansQ (fun i => A.getD i false) A.length := by
      rw [lA]
      exact spansQ_congr fun i hi => by rw [hA]; simp [hrsA, List.getD, hi]
    have eB : openM (ofPath rules p) (scensOf (possL F seen)) (hd0 F).length = spansQ (fun i => B.getD i false) B.length := by
      rw [lB]
      exact spansQ_congr fun i hi => by rw [hB]; simp [hrsE, List.getD, hi]
    rw [eA, eB]
    rw [← hA, ← hB] at h44
    have cA := f45 A (by omega)
    have cB := f45 B (by omega)
    obtain ⟨XA, hXA⟩ : ∃ X, X = spansQ (fun i => A.getD i false) A.length := ⟨_, rfl⟩
    obtain ⟨XB, hXB⟩ : ∃ X, X = spansQ (fun i => B.getD i false) B.length := ⟨_, rfl⟩
    rw [← hXA] at cA ⊢
    rw [← hXB] at cB ⊢
    rw [Bool.and_self] at h19
    have zc : (c == 0) = true := hz.symm
    refine fn_walk 44 Tryz.call13 Tryz.func13 rfl (by decide) fun J => ?_
    simp (maxSteps := 4000000) only [go_sem, St.start, Tryz.ntmps13, Tryz.results13, Net.cells_eq]
    repeat (first | refine walkL_true rfl ?_ | refine walkL_false rfl ?_ | refine walkL_seq ?_ | refine walkL_skip ?_ | refine walkL_block ?_ | (refine walkL_region fun K hK => ?_; simp (maxSteps := 4000000) only [go_sem, hz0, zc]; (repeat (first | (refine ⟨_, .lent (hf := h42) (hd := rfl) (hr := rfl), ?_⟩; simp (maxSteps := 4000000) only [go_sem, hz0, zc]) | (refine ⟨_, .lent (hf := h43) (hd := rfl) (hr := rfl), ?_⟩; simp (maxSteps := 4000000) only [go_sem, hz0, zc]) | (refine ⟨_, .lent (hf := h19) (hd := rfl) (hr := rfl), ?_⟩; simp (maxSteps := 4000000) only [go_sem, hz0, zc]) | (refine ⟨_, .given (hf := h42) (hd := rfl) (ha := rfl), ?_⟩; simp (maxSteps := 4000000) only [go_sem, hz0, zc]) | (refine ⟨_, .given (hf := h43) (hd := rfl) (ha := rfl), ?_⟩; simp (maxSteps := 4000000) only [go_sem, hz0, zc]) | (refine ⟨_, .given (hf := h19) (hd := rfl) (ha := rfl), ?_⟩; simp (maxSteps := 4000000) only [go_sem, hz0, zc]))); refine hK _ ?_; clear hK K) | (refine walkL_drawn (by kernel_rfl) (by kernel_rfl) fun K hK => ?_; simp (maxSteps := 4000000) only [go_sem, hz0, zc]; (repeat (first | (refine ⟨_, .fn (hf := h42) (hd := rfl) (hr := .inl rfl), ?_⟩; simp (maxSteps := 4000000) only [go_sem, hz0, zc]) | (refine ⟨_, .fn (hf := h43) (hd := rfl) (hr := .inl rfl), ?_⟩; simp (maxSteps := 4000000) only [go_sem, hz0, zc]) | (refine ⟨_, .fn (hf := h19) (hd := rfl) (hr := .inl rfl), ?_⟩; simp (maxSteps := 4000000) only [go_sem, hz0, zc]))); refine ⟨by kernel_rfl, hK _ ?_⟩; clear hK K) | refine walkL_nil ?_ | refine walkL_ret ?_ | refine walkL_exit ?_ | refine blockA_here ?_ | refine blockA_other rfl ?_ | refine blockA_ret ?_ | refine blockA_normal ?_ | refine thenA_ret ?_ | refine thenA_exit ?_ | refine thenA_normal ?_)
    repeat (first | refine walkL_true rfl ?_ | refine walkL_false rfl ?_ | refine walkL_seq ?_ | refine walkL_skip ?_ | refine walkL_block ?_ | (refine walkL_region fun K hK => ?_; simp (maxSteps := 4000000) only [go_sem]; (repeat (first | (refine ⟨_, .lent (hf := h44) (hd := rfl) (hr := rfl), ?_⟩; simp (maxSteps := 4000000) only [go_sem]) | (refine ⟨_, .lent (hf := cA) (hd := rfl) (hr := rfl), ?_⟩; simp (maxSteps := 4000000) only [go_sem]) | (refine ⟨_, .lent (hf := cB) (hd := rfl) (hr := rfl), ?_⟩; simp (maxSteps := 4000000) only [go_sem]) | (refine ⟨_, .given (hf := h44) (hd := rfl) (ha := rfl), ?_⟩; simp (maxSteps := 4000000) only [go_sem]) | (refine ⟨_, .given (hf := cA) (hd := rfl) (ha := rfl), ?_⟩; simp (maxSteps := 4000000) only [go_sem]) | (refine ⟨_, .given (hf := cB) (hd := rfl) (ha := rfl), ?_⟩; simp (maxSteps := 4000000) only [go_sem]))); refine hK _ ?_; clear hK K) | refine walkL_nil ?_ | refine walkL_ret ?_ | refine walkL_exit ?_ | refine blockA_here ?_ | refine blockA_other rfl ?_ | refine blockA_ret ?_ | refine blockA_normal ?_ | refine thenA_ret ?_ | refine thenA_exit ?_ | refine thenA_normal ?_)
    simp (maxSteps := 4000000) only [go_sem, h0]
    try rfl
  · rw [if_neg h0]
    have hz0 : (e != 0) = true := by simpa using h0
    have e3 : spanRows [] = [] := rfl
    have zc : (c == 0) = z := hz.symm
    cases z
    · rw [Bool.false_and] at h19
      refine fn_walk 44 Tryz.call13 Tryz.func13 rfl (by decide) fun J => ?_
      simp (maxSteps := 4000000) only [go_sem, St.start, Tryz.ntmps13, Tryz.results13, Net.cells_eq]
      repeat (first | refine walkL_true rfl ?_ | refine walkL_false rfl ?_ | refine walkL_seq ?_ | refine walkL_skip ?_ | refine walkL_block ?_ | (refine walkL_region fun K hK => ?_; simp (maxSteps := 4000000) only [go_sem, hz0, zc]; (repeat (first | (refine ⟨_, .lent (hf := h42) (hd := rfl) (hr := rfl), ?_⟩; simp (maxSteps := 4000000) only [go_sem, hz0, zc]) | (refine ⟨_, .lent (hf := h19) (hd := rfl) (hr := rfl), ?_⟩; simp (maxSteps := 4000000) only [go_sem, hz0, zc]) | (refine ⟨_, .given (hf := h42) (hd := rfl) (ha := rfl), ?_⟩; simp (maxSteps := 4000000) only [go_sem, hz0, zc]) | (refine ⟨_, .given (hf := h19) (hd := rfl) (ha := rfl), ?_⟩; simp (maxSteps := 4000000) only [go_sem, hz0, zc]))); refine hK _ ?_; clear hK K) | (refine walkL_drawn (by kernel_rfl) (by kernel_rfl) fun K hK => ?_; simp (maxSteps := 4000000) only [go_sem, hz0, zc]; (repeat (first | (refine ⟨_, .fn (hf := h42) (hd := rfl) (hr := .inl rfl), ?_⟩; simp (maxSteps := 4000000) only [go_sem, hz0, zc]) | (refine ⟨_, .fn (hf := h19) (hd := rfl) (hr := .inl rfl), ?_⟩; simp (maxSteps := 4000000) only [go_sem, hz0, zc]))); refine ⟨by kernel_rfl, hK _ ?_⟩; clear hK K) | refine walkL_nil ?_ | refine walkL_ret ?_ | refine walkL_exit ?_ | refine blockA_here ?_ | refine blockA_other rfl ?_ | refine blockA_ret ?_ | refine blockA_normal ?_ | refine thenA_ret ?_ | refine thenA_exit ?_ | refine thenA_normal ?_)
      simp (maxSteps := 4000000) only [go_sem, e3]
      try rfl
    · rw [Bool.true_and] at h19
      refine fn_walk 44 Tryz.call13 Tryz.func13 rfl (by decide) fun J => ?_
      simp (maxSteps := 4000000) only [go_sem, St.start, Tryz.ntmps13, Tryz.results13, Net.cells_eq]
      repeat (first | refine walkL_true rfl ?_ | refine walkL_false rfl ?_ | refine walkL_seq ?_ | refine walkL_skip ?_ | refine walkL_block ?_ | (refine walkL_region fun K hK => ?_; simp (maxSteps := 4000000) only [go_sem, hz0, zc]; (repeat (first | (refine ⟨_, .lent (hf := h42) (hd := rfl) (hr := rfl), ?_⟩; simp (maxSteps := 4000000) only [go_sem, hz0, zc]) | (refine ⟨_, .lent (hf := h43) (hd := rfl) (hr := rfl), ?_⟩; simp (maxSteps := 4000000) only [go_sem, hz0, zc]) | (refine ⟨_, .lent (hf := h19) (hd := rfl) (hr := rfl), ?_⟩; simp (maxSteps := 4000000) only [go_sem, hz0, zc]) | (refine ⟨_, .given (hf := h42) (hd := rfl) (ha := rfl), ?_⟩; simp (maxSteps := 4000000) only [go_sem, hz0, zc]) | (refine ⟨_, .given (hf := h43) (hd := rfl) (ha := rfl), ?_⟩; simp (maxSteps := 4000000) only [go_sem, hz0, zc]) | (refine ⟨_, .given (hf := h19) (hd := rfl) (ha := rfl), ?_⟩; simp (maxSteps := 4000000) only [go_sem, hz0, zc]))); refine hK _ ?_; clear hK K) | (refine walkL_drawn (by kernel_rfl) (by kernel_rfl) fun K hK => ?_; simp (maxSteps := 4000000) only [go_sem, hz0, zc]; (repeat (first | (refine ⟨_, .fn (hf := h42) (hd := rfl) (hr := .inl rfl), ?_⟩; simp (maxSteps := 4000000) only [go_sem, hz0, zc]) | (refine ⟨_, .fn (hf := h43) (hd := rfl) (hr := .inl rfl), ?_⟩; simp (maxSteps := 4000000) only [go_sem, hz0, zc]) | (refine ⟨_, .fn (hf := h19) (hd := rfl) (hr := .inl rfl), ?_⟩; simp (maxSteps := 4000000) only [go_sem, hz0, zc]))); refine ⟨by kernel_rfl, hK _ ?_⟩; clear hK K) | refine walkL_nil ?_ | refine walkL_ret ?_ | refine walkL_exit ?_ | refine blockA_here ?_ | refine blockA_other rfl ?_ | refine blockA_ret ?_ | refine blockA_normal ?_ | refine thenA_ret ?_ | refine thenA_exit ?_ | refine thenA_normal ?_)
      simp (maxSteps := 4000000) only [go_sem, e3]
      try rfl
theorem f11 (n : Net) (hs : n.Small) : Fn Tryz.prog 11 [.agg n.cells] (.agg n.cells) := by
  have hpl := hs.paths
  refine fn_walk 33 Tryz.call11 Tryz.func11 rfl (by decide) fun J => ?_
  simp (maxSteps := 4000000) only [go_sem, St.start, Tryz.ntmps11, Tryz.results11, Net.cells_eq]
  repeat (first | refine walkL_seq ?_ | refine walkL_skip ?_ | refine walkL_block ?_ | (refine walkL_region fun K hK => ?_; simp (maxSteps := 4000000) only [go_sem]; refine hK _ ?_; clear hK K) | refine walkL_nil ?_ | refine walkL_ret ?_ | refine walkL_exit ?_ | refine blockA_here ?_ | refine blockA_other rfl ?_ | refine blockA_ret ?_ | refine blockA_normal ?_ | refine thenA_ret ?_ | refine thenA_exit ?_ | refine thenA_normal ?_)
  refine walkL_loopS (fun (i : Nat) => [(4, .d (.i i))]) (fun i => [(3, some (.box [.d (.i n.places), .own 30])), (30, some (.arr 56 8 (pathRows (n.paths.take i))))]) (fun i => i ≤ n.paths.length) (fun i => n.paths.length - i) 0 ?_ (Nat.zero_le _) ?_
  · simp (maxSteps := 4000000) only [go_sem]
    refine weak_of [30] ?_ ?_ rfl rfl <;> simp [lessT, lessM, lessB, AV.less]
    all_goals first | done | rfl
  · intro i hi
    simp (maxSteps := 4000000) only [go_sem]
    repeat (first | refine walkL_seq ?_ | refine walkL_skip ?_ | refine walkL_block ?_ | (refine walkL_region fun K hK => ?_; simp (maxSteps := 4000000) only [go_sem]; refine hK _ ?_; clear hK K) | refine walkL_nil ?_ | refine walkL_ret ?_ | refine walkL_exit ?_ | refine blockA_here ?_ | refine blockA_other rfl ?_ | refine blockA_ret ?_ | refine blockA_normal ?_ | refine thenA_ret ?_ | refine thenA_exit ?_ | refine thenA_normal ?_)
    refine walkL_cond rfl (fun hb => ?_) (fun hb => ?_)
    · have hlt : i < n.paths.length := by simpa using hb
      have hw : IntKind.i64.wrap ((i : Int) + 1) = ((i + 1 : Nat) : Int) := by rw [wr_small (by omega)]; simp
      obtain ⟨x, hx⟩ : ∃ x, n.paths[i]? = some x := ⟨_, List.getElem?_eq_getElem hlt⟩
      have hxo := hs.opens x (List.mem_of_getElem? hx)
      have g1 := pathRows_at hx
      rw [Path.row_eq] at g1
      have h1 : x.opens.length ≤ 549755813888 := by omega
      have h2 : 0 + x.opens.length ≤ 549755813888 := by omega
      have h4 : (n.paths.take i).length + 1 ≤ 549755813888 := by rw [List.length_take]; omega
      have h3 : pathRows (n.paths.take (i + 1)) = pathRows (n.paths.take i) ++ [x.row] := by rw [List.take_add_one, hx]; simp [pathRows]
      obtain ⟨A, hA⟩ : ∃ A, A = n.paths.take i := ⟨_, rfl⟩
      rw [← hA] at h3 h4 ⊢
      repeat (first | refine walkL_seq ?_ | refine walkL_skip ?_ | refine walkL_block ?_ | (refine walkL_region fun K hK => ?_; simp (maxSteps := 4000000) only [go_sem, g1, h1, h2, h4, List.nil_append, List.length_nil, hw]; refine hK _ ?_; clear hK K) | refine walkL_nil ?_ | refine walkL_ret ?_ | refine walkL_exit ?_ | refine blockA_here ?_ | refine blockA_other rfl ?_ | refine blockA_ret ?_ | refine blockA_normal ?_ | refine thenA_ret ?_ | refine thenA_exit ?_ | refine thenA_normal ?_)
      refine ⟨rfl, i + 1, ?_, hlt, by omega⟩
      rw [h3, Path.row_eq]
      refine weak_of [] ?_ ?_ rfl rfl <;> simp [lessT, lessM, lessB, AV.less]
      all_goals first | done | rfl
    · have he : i = n.paths.length := by (have : ¬ i < n.paths.length := by simpa using hb); omega
      subst he
      rw [List.take_length]
      repeat (first | refine walkL_seq ?_ | refine walkL_skip ?_ | refine walkL_block ?_ | (refine walkL_region fun K hK => ?_; simp (maxSteps := 4000000) only [go_sem]; refine hK _ ?_; clear hK K) | refine walkL_nil ?_ | refine walkL_ret ?_ | refine walkL_exit ?_ | refine blockA_here ?_ | refine blockA_other rfl ?_ | refine blockA_ret ?_ | refine blockA_normal ?_ | refine thenA_ret ?_ | refine thenA_exit ?_ | refine thenA_normal ?_)
      simp (maxSteps := 4000000) only [go_sem]
theorem f11m (n : Net) (hs : n.Small) : FnG Tryz.prog 11 [] [] [.d (.agg n.cells)] (.agg [.d (.i n.places), .own 0]) [.arr 56 8 (pathRows n.paths)] := by
  have hpl := hs.paths
  refine fnG_walk 33 Tryz.call11 Tryz.func11 rfl (by decide) [30] [] (by simp only [List.length_cons, List.length_nil]; decide) (by kernel_rfl) fun J => ?_
  simp (maxSteps := 4000000) only [go_sem, St.startG, Tryz.ntmps11, Tryz.results11, List.map_cons, List.map_nil, List.range_succ,  Net.cells_eq]
  repeat (first | refine walkL_seq ?_ | refine walkL_skip ?_ | refine walkL_block ?_ | (refine walkL_region fun K hK => ?_; simp (maxSteps := 4000000) only [go_sem]; refine hK _ ?_; clear hK K) | refine walkL_nil ?_ | refine walkL_ret ?_ | refine walkL_exit ?_ | refine blockA_here ?_ | refine blockA_other rfl ?_ | refine blockA_ret ?_ | refine blockA_normal ?_ | refine thenA_ret ?_ | refine thenA_exit ?_ | refine thenA_normal ?_)
  refine walkL_loopS (fun (i : Nat) => [(4, .d (.i i))]) (fun i => [(3, some (.box [.d (.i n.places), .own 30])), (30, some (.arr 56 8 (pathRows (n.paths.take i))))]) (fun i => i ≤ n.paths.length) (fun i => n.paths.length - i) 0 ?_ (Nat.zero_le _) ?_
  · simp (maxSteps := 4000000) only [go_sem]
    refine weak_of [30] ?_ ?_ rfl rfl <;> simp [lessT, lessM, lessB, AV.less]
    all_goals first | done | rfl
  · intro i hi
    simp (maxSteps := 4000000) only [go_sem]
    repeat (first | refine walkL_seq ?_ | refine walkL_skip ?_ | refine walkL_block ?_ | (refine walkL_region fun K hK => ?_; simp (maxSteps := 4000000) only [go_sem]; refine hK _ ?_; clear hK K) | refine walkL_nil ?_ | refine walkL_ret ?_ | refine walkL_exit ?_ | refine blockA_here ?_ | refine blockA_other rfl ?_ | refine blockA_ret ?_ | refine blockA_normal ?_ | refine thenA_ret ?_ | refine thenA_exit ?_ | refine thenA_normal ?_)
    refine walkL_cond rfl (fun hb => ?_) (fun hb => ?_)
    · have hlt : i < n.paths.length := by simpa using hb
      have hw : IntKind.i64.wrap ((i : Int) + 1) = ((i + 1 : Nat) : Int) := by rw [wr_small (by omega)]; simp
      obtain ⟨x, hx⟩ : ∃ x, n.paths[i]? = some x := ⟨_, List.getElem?_eq_getElem hlt⟩
      have hxo := hs.opens x (List.mem_of_getElem? hx)
      have g1 := pathRows_at hx
      rw [Path.row_eq] at g1
      have h1 : x.opens.length ≤ 549755813888 := by omega
      have h2 : 0 + x.opens.length ≤ 549755813888 := by omega
      have h4 : (n.paths.take i).length + 1 ≤ 549755813888 := by rw [List.length_take]; omega
      have h3 : pathRows (n.paths.take (i + 1)) = pathRows (n.paths.take i) ++ [x.row] := by rw [List.take_add_one, hx]; simp [pathRows]
      obtain ⟨A, hA⟩ : ∃ A, A = n.paths.take i := ⟨_, rfl⟩
      rw [← hA] at h3 h4 ⊢
      repeat (first | refine walkL_seq ?_ | refine walkL_skip ?_ | refine walkL_block ?_ | (refine walkL_region fun K hK => ?_; simp (maxSteps := 4000000) only [go_sem, g1, h1, h2, h4, List.nil_append, List.length_nil, hw]; refine hK _ ?_; clear hK K) | refine walkL_nil ?_ | refine walkL_ret ?_ | refine walkL_exit ?_ | refine blockA_here ?_ | refine blockA_other rfl ?_ | refine blockA_ret ?_ | refine blockA_normal ?_ | refine thenA_ret ?_ | refine thenA_exit ?_ | refine thenA_normal ?_)
      refine ⟨rfl, i + 1, ?_, hlt, by omega⟩
      rw [h3, Path.row_eq]
      refine weak_of [] ?_ ?_ rfl rfl <;> simp [lessT, lessM, lessB, AV.less]
      all_goals first | done | rfl
    · have he : i = n.paths.length := by (have : ¬ i < n.paths.length := by simpa using hb); omega
      subst he
      rw [List.take_length]
      repeat (first | refine walkL_seq ?_ | refine walkL_skip ?_ | refine walkL_block ?_ | (refine walkL_region fun K hK => ?_; simp (maxSteps := 4000000) only [go_sem]; refine hK _ ?_; clear hK K) | refine walkL_nil ?_ | refine walkL_ret ?_ | refine walkL_exit ?_ | refine blockA_here ?_ | refine blockA_other rfl ?_ | refine blockA_ret ?_ | refine blockA_normal ?_ | refine thenA_ret ?_ | refine thenA_exit ?_ | refine thenA_normal ?_)
      simp (maxSteps := 4000000) only [go_sem, retG]
theorem f17 (n : Net) (hs : n.Small) : Fn Tryz.prog 17 [.agg n.cells, .agg n.cells] (.bool true) := by
  have hpl := hs.paths
  have n1 : ∀ z : Int, (z != z) = false := fun z => by simp
  have n2 : ∀ z : Int, (z == z) = true := fun z => by simp
  refine fn_walk 80 Tryz.call17 Tryz.func17 rfl (by decide) fun J => ?_
  simp (maxSteps := 4000000) only [go_sem, St.start, Tryz.ntmps17, Tryz.results17, Net.cells_eq]
  repeat (first | refine walkL_true rfl ?_ | refine walkL_false rfl ?_ | refine walkL_seq ?_ | refine walkL_skip ?_ | refine walkL_block ?_ | (refine walkL_region fun K hK => ?_; simp (maxSteps := 4000000) only [go_sem, n1]; refine hK _ ?_; clear hK K) | refine walkL_nil ?_ | refine walkL_ret ?_ | refine walkL_exit ?_ | refine blockA_here ?_ | refine blockA_other rfl ?_ | refine blockA_ret ?_ | refine blockA_normal ?_ | refine thenA_ret ?_ | refine thenA_exit ?_ | refine thenA_normal ?_)
  refine walkL_loopS (fun (i : Nat) => [(5, .d (.i i)), (6, .undef), (7, .undef)]) (fun _ => []) (fun i => i ≤ n.paths.length) (fun i => n.paths.length - i) 0 ?_ (Nat.zero_le _) ?_
  · simp (maxSteps := 4000000) only [go_sem]
    refine weak_of [] ?_ ?_ rfl rfl <;> simp [lessT, lessM, lessB, AV.less]
    all_goals first | done | rfl
  · intro i hi
    simp (maxSteps := 4000000) only [go_sem]
    repeat (first | refine walkL_seq ?_ | refine walkL_skip ?_ | refine walkL_block ?_ | (refine walkL_region fun K hK => ?_; simp (maxSteps := 4000000) only [go_sem]; refine hK _ ?_; clear hK K) | refine walkL_nil ?_ | refine walkL_ret ?_ | refine walkL_exit ?_ | refine blockA_here ?_ | refine blockA_other rfl ?_ | refine blockA_ret ?_ | refine blockA_normal ?_ | refine thenA_ret ?_ | refine thenA_exit ?_ | refine thenA_normal ?_)
    refine walkL_cond rfl (fun hb => ?_) (fun hb => ?_)
    · have hlt : i < n.paths.length := by simpa using hb
      have hw : IntKind.i64.wrap ((i : Int) + 1) = ((i + 1 : Nat) : Int) := by rw [wr_small (by omega)]; simp
      obtain ⟨x, hx⟩ : ∃ x, n.paths[i]? = some x := ⟨_, List.getElem?_eq_getElem hlt⟩
      have hxo := hs.opens x (List.mem_of_getElem? hx)
      have g1 := pathRows_at hx
      rw [Path.row_eq] at g1
      have c14 := f14 x.opens hxo
      repeat (first | refine walkL_true rfl ?_ | refine walkL_false rfl ?_ | refine walkL_seq ?_ | refine walkL_skip ?_ | refine walkL_block ?_ | (refine walkL_region fun K hK => ?_; simp (maxSteps := 4000000) only [go_sem, g1, n1, n2, Bool.and_self, Bool.not_true, hw]; (repeat (first | (refine ⟨_, .lent (hf := c14) (hd := rfl) (hr := rfl), ?_⟩; simp (maxSteps := 4000000) only [go_sem, g1, n1, n2, Bool.and_self, Bool.not_true, hw]) | (refine ⟨_, .given (hf := c14) (hd := rfl) (ha := rfl), ?_⟩; simp (maxSteps := 4000000) only [go_sem, g1, n1, n2, Bool.and_self, Bool.not_true, hw]))); refine hK _ ?_; clear hK K) | (refine walkL_drawn (by kernel_rfl) (by kernel_rfl) fun K hK => ?_; simp (maxSteps := 4000000) only [go_sem, g1, n1, n2, Bool.and_self, Bool.not_true, hw]; (repeat (first | (refine ⟨_, .fn (hf := c14) (hd := rfl) (hr := .inl rfl), ?_⟩; simp (maxSteps := 4000000) only [go_sem, g1, n1, n2, Bool.and_self, Bool.not_true, hw]))); refine ⟨by kernel_rfl, hK _ ?_⟩; clear hK K) | refine walkL_nil ?_ | refine walkL_ret ?_ | refine walkL_exit ?_ | refine blockA_here ?_ | refine blockA_other rfl ?_ | refine blockA_ret ?_ | refine blockA_normal ?_ | refine thenA_ret ?_ | refine thenA_exit ?_ | refine thenA_normal ?_)
      refine ⟨rfl, i + 1, ?_, hlt, by omega⟩
      refine weak_of [] ?_ ?_ rfl rfl <;> simp [lessT, lessM, lessB, AV.less]
      all_goals first | done | rfl
    · have he : i = n.paths.length := by (have : ¬ i < n.paths.length := by simpa using hb); omega
      subst he
      repeat (first | refine walkL_seq ?_ | refine walkL_skip ?_ | refine walkL_block ?_ | (refine walkL_region fun K hK => ?_; simp (maxSteps := 4000000) only [go_sem]; refine hK _ ?_; clear hK K) | refine walkL_nil ?_ | refine walkL_ret ?_ | refine walkL_exit ?_ | refine blockA_here ?_ | refine blockA_other rfl ?_ | refine blockA_ret ?_ | refine blockA_normal ?_ | refine thenA_ret ?_ | refine thenA_exit ?_ | refine thenA_normal ?_)
      simp (maxSteps := 4000000) only [go_sem]
end Go.Ab
namespace Go.Ab
open Go.RowKit Go.Proofs
set_option maxHeartbeats 16000000
set_option maxRecDepth 20000
attribute [local irreducible] WalkL Walk
theorem ruled_eq (rules : List Rule) (p : Int) : (rules.any fun r => r.path == p) = !(((ofPath rules p).length : Int) == 0) := by
  cases h : rules.any fun r => r.path == p
  · have : ofPath rules p = [] := List.filter_eq_nil_iff.2 fun x hx => by
      have := List.any_eq_false.1 h x hx
      exact this
    rw [this]; rfl
  · obtain ⟨x, hx, hq⟩ := List.any_eq_true.1 h
    have : x ∈ ofPath rules p := List.mem_filter.2 ⟨hx, hq⟩
    have := List.length_pos_of_mem this
    have hb : (((ofPath rules p).length : Int) == 0) = false := beq_eq_false_iff_ne.2 (by omega)
    rw [hb]; rfl
def minB (opens : List Span) (A : List Bool) (t : Nat) : Bool := decide (t / 60 < A.length) && A.getD (t / 60) false && inSpans opens (t : Int)
theorem minB_spans {opens : List Span} {R : List Rule} {S : List (List Hour)} {H : Nat} {M : Nat} {U : List Bool} (hU : U = (List.replicate M false).mapIdx fun (t : Nat) (_ : Bool) => minB opens (hrsA R S H) t) :
    spansQ (fun i => U.getD i false) U.length = spansQ (fun t => inSpans opens (t : Int) && inSpans (openS R S H) ((t / 60 : Nat) : Int)) M := by
  have hl : U.length = M := by rw [hU]; simp
  rw [hl]
  refine spansQ_congr fun i hi => ?_
  have e : U.getD i false = minB opens (hrsA R S H) i := by
    rw [hU, List.getD, List.getElem?_mapIdx, List.getElem?_replicate, if_pos hi]; rfl
  rw [e]
  unfold minB openS
  rw [inSpans_spansQ, hrsA_len]
  by_cases hH : i / 60 < H
  · have : (hrsA R S H).getD (i / 60) false = S.all fun s => keepsB alwaysB R s (i / 60) := by unfold hrsA; simp [List.getD, hH]
    rw [this, Bool.and_comm]
  · simp [hH]
theorem f16 (n : Net) (rules : List Rule) (F : List (List Hour)) (seen : List Sight) (hn : n.Small) (hr : rules.length < 2 ^ 30) (hs : ForeSmall F) (hsl : seen.length < 2 ^ 30) :
    Fn Tryz.prog 16 [.agg n.cells, .sl (ruleRows rules), .agg [.sl (scenRows F)], .sl (sightRows seen)] (.tup [.agg (safeF n rules F seen).1.cells, .i (safeF n rules F seen).2]) := by
  have h19 := f19 n rules F seen true hn hr hs hsl
  have h11 := f11m n hn
  have hE : ruledE n rules F seen (-1) = crE n rules F seen true := by
    rw [ruledE_cr]
    rw [show withinB (-1) (-1) ((n.paths.length : Int) - 1) = true from within_iff.2 ⟨by omega, by omega⟩]
  unfold safeF
  rw [hE]
  rw [Net.cells_eq] at h19 h11
  have h11 : FnG Tryz.prog 11 [] [] (([.agg [.i n.places, .sl (pathRows n.paths)]] : List DV).map AV.d) (.agg [.d (.i n.places), .own 0]) [.arr 56 8 (pathRows n.paths)] := h11
  obtain ⟨e, he⟩ : ∃ e, e = crE n rules F seen true := ⟨_, rfl⟩
  rw [← he] at h19 ⊢
  by_cases h0 : e = 0
  · rw [if_pos h0]
    have hz0 : (e != 0) = false := by simp [h0]
    obtain ⟨hg, hsi, hne, hnG, hrl, hro⟩ := cr_all (he.symm.trans h0)
    have hH := hg.hours
    have hpl := hn.paths
    have h44 := fun p => f44 F seen rules p hg hsi (fun x hx => (hro x hx).2.1) hr
    obtain ⟨S, hS⟩ : ∃ S, S = scensOf (possL F seen) := ⟨_, rfl⟩
    obtain ⟨H, hHe⟩ : ∃ H, H = (hd0 F).length := ⟨_, rfl⟩
    rw [← hS, ← hHe] at h44 ⊢
    rw [← hHe] at hH
    obtain ⟨f, hf⟩ : ∃ f, f = safeP rules S H := ⟨_, rfl⟩
    rw [← hf, Net.cells_eq]
    refine fn_walk 93 Tryz.call16 Tryz.func16 rfl (by decide) fun J => ?_
    simp (maxSteps := 4000000) only [go_sem, St.start, Tryz.ntmps16, Tryz.results16, Net.cells_eq]
    repeat (first | refine walkL_true rfl ?_ | refine walkL_false rfl ?_ | refine walkL_seq ?_ | refine walkL_skip ?_ | refine walkL_block ?_ | (refine walkL_region fun K hK => ?_; simp (maxSteps := 4000000) only [go_sem, hz0]; (repeat (first | (refine ⟨_, .lent (hf := h19) (hd := rfl) (hr := rfl), ?_⟩; simp (maxSteps := 4000000) only [go_sem, hz0]) | (refine ⟨_, .given (hf := h19) (hd := rfl) (ha := rfl), ?_⟩; simp (maxSteps := 4000000) only [go_sem, hz0]))); refine hK _ ?_; clear hK K) | refine walkL_nil ?_ | refine walkL_ret ?_ | refine walkL_exit ?_ | refine blockA_here ?_ | refine blockA_other rfl ?_ | refine blockA_ret ?_ | refine blockA_normal ?_ | refine thenA_ret ?_ | refine thenA_exit ?_ | refine thenA_normal ?_)
    refine walkL_region fun K hK => ?_
    simp (maxSteps := 4000000) only [go_sem]
    refine ⟨_, .made (news := [28]) (hf := h11) (hd := rfl) (hn := by decide) (hl := rfl) (hnew := rfl) (hx := rfl), ?_⟩
    simp (maxSteps := 4000000) only [go_sem, List.map_cons, List.map_nil]
    refine hK _ ?_
    clear hK K
    repeat (first | refine walkL_seq ?_ | refine walkL_skip ?_ | refine walkL_block ?_ | (refine walkL_region fun K hK => ?_; simp (maxSteps := 4000000) only [go_sem]; refine hK _ ?_; clear hK K) | refine walkL_nil ?_ | refine walkL_ret ?_ | refine walkL_exit ?_ | refine blockA_here ?_ | refine blockA_other rfl ?_ | refine blockA_ret ?_ | refine blockA_normal ?_ | refine thenA_ret ?_ | refine thenA_exit ?_ | refine thenA_normal ?_)
    refine walkL_loopS (fun (i : Nat) => [(12, .d (.i i)), (13, .undef), (14, .undef), (15, .undef), (16, .undef), (17, .undef)]) (fun i => [(28, some (.arr 56 8 (pathRows (updI f n.paths i))))]) (fun i => i ≤ n.paths.length) (fun i => n.paths.length - i) 0 ?_ (Nat.zero_le _) ?_
    · simp (maxSteps := 4000000) only [go_sem, updI_zero]
      refine weak_of [] ?_ ?_ rfl rfl <;> simp [lessT, lessM, lessB, AV.less]
      all_goals first | done | rfl | exact ⟨rfl, rfl⟩ | rw [updI_zero]
    · intro i hi
      simp (maxSteps := 4000000) only [go_sem]
      repeat (first | refine walkL_seq ?_ | refine walkL_skip ?_ | refine walkL_block ?_ | (refine walkL_region fun K hK => ?_; simp (maxSteps := 4000000) only [go_sem]; refine hK _ ?_; clear hK K) | refine walkL_nil ?_ | refine walkL_ret ?_ | refine walkL_exit ?_ | refine blockA_here ?_ | refine blockA_other rfl ?_ | refine blockA_ret ?_ | refine blockA_normal ?_ | refine thenA_ret ?_ | refine thenA_exit ?_ | refine thenA_normal ?_)
      refine walkL_cond rfl (fun hb => ?_) (fun hb => ?_)
      · have hlt : i < n.paths.length := by simpa using hb
        have hw : IntKind.i64.wrap ((i : Int) + 1) = ((i + 1 : Nat) : Int) := by rw [wr_small (by omega)]; simp
        obtain ⟨x, hx⟩ : ∃ x, n.paths[i]? = some x := ⟨_, List.getElem?_eq_getElem hlt⟩
        have hxo := hn.opens x (List.mem_of_getElem? hx)
        have e1 := updI_set f hx
        have hLg := updI_get f hx
        have hLl := updI_len f n.paths i
        obtain ⟨L, hL⟩ : ∃ L, L = updI f n.paths i := ⟨_, rfl⟩
        rw [← hL] at e1 hLg hLl ⊢
        have hiL : i < L.length := by omega
        have g0 := pathRows_at hx
        have g1 := pathRows_at hLg
        rw [Path.row_eq] at g0 g1
        have c52 := f52 rules (i : Int) hr
        rw [ruled_eq] at c52
        have c44 := h44 (i : Int)
        have hfx : f i x = safeP rules S H i x := by rw [hf]
        unfold safeP at hfx
        obtain ⟨R, hR⟩ : ∃ R, R = ofPath rules i := ⟨_, rfl⟩
        rw [← hR] at c52 c44 hfx
        cases q : ((R.length : Int) == 0)
        · rw [q] at hfx c52
          simp only [Bool.false_eq_true, if_false, Bool.not_false] at hfx c52
          have lA := hrsA_len R S H
          obtain ⟨M, hM⟩ : ∃ M : Nat, M = 2881 := ⟨_, rfl⟩
          have hmin : ∀ U : List Bool, U = (List.replicate M false).mapIdx (fun (t : Nat) (_ : Bool) => minB x.opens (hrsA R S H) t) → spansQ (fun i => U.getD i false) U.length = spansQ (fun t => inSpans x.opens (t : Int) && inSpans (openS R S H) ((t / 60 : Nat) : Int)) M := fun U hU => minB_spans hU
          obtain ⟨A, hA⟩ : ∃ A, A = hrsA R S H := ⟨_, rfl⟩
          rw [← hA] at c44 lA hmin
          unfold safeOpens at hfx
          rw [← hM] at hfx
          obtain ⟨X, hX⟩ : ∃ X, X = spansQ (fun t => inSpans x.opens (t : Int) && inSpans (openS R S H) ((t / 60 : Nat) : Int)) M := ⟨_, rfl⟩
          rw [← hX] at hfx hmin
          obtain ⟨g, hg0⟩ : ∃ g : Nat → Bool → Bool, g = fun t _ => minB x.opens A t := ⟨_, rfl⟩
          have z0 : List.replicate M [DV.bool false] = boolRows (updI g (List.replicate M false) 0) := by rw [updI_zero, boolRows_rep]
          have z1 : List.replicate 2881 [DV.bool false] = boolRows (updI g (List.replicate M false) 0) := by rw [← z0, hM]
          repeat (first | refine walkL_true rfl ?_ | refine walkL_false rfl ?_ | refine walkL_seq ?_ | refine walkL_skip ?_ | refine walkL_block ?_ | (refine walkL_region fun K hK => ?_; simp (maxSteps := 4000000) only [go_sem]; (repeat (first | (refine ⟨_, .lent (hf := c52) (hd := rfl) (hr := rfl), ?_⟩; simp (maxSteps := 4000000) only [go_sem]) | (refine ⟨_, .given (hf := c52) (hd := rfl) (ha := rfl), ?_⟩; simp (maxSteps := 4000000) only [go_sem]))); refine hK _ ?_; clear hK K) | refine walkL_nil ?_ | refine walkL_ret ?_ | refine walkL_exit ?_ | refine blockA_here ?_ | refine blockA_other rfl ?_ | refine blockA_ret ?_ | refine blockA_normal ?_ | refine thenA_ret ?_ | refine thenA_exit ?_ | refine thenA_normal ?_)
          refine walkL_region fun K hK => ?_
          simp (maxSteps := 4000000) only [go_sem]
          refine ⟨_, .given (hf := c44) (hd := rfl) (ha := rfl), ?_⟩
          simp (maxSteps := 4000000) only [go_sem]
          refine hK _ ?_
          clear hK K
          repeat (first | refine walkL_seq ?_ | refine walkL_skip ?_ | refine walkL_block ?_ | (refine walkL_region fun K hK => ?_; simp (maxSteps := 4000000) only [go_sem, z1, -List.reduceReplicate]; refine hK _ ?_; clear hK K) | refine walkL_nil ?_ | refine walkL_ret ?_ | refine walkL_exit ?_ | refine blockA_here ?_ | refine blockA_other rfl ?_ | refine blockA_ret ?_ | refine blockA_normal ?_ | refine thenA_ret ?_ | refine thenA_exit ?_ | refine thenA_normal ?_)
          have hfew : A.length ≤ 48 := by omega
          refine walkL_loopS (fun (t : Nat) => [(16, .d (.i t))]) (fun t => [(48, some (.arr 4 1 (boolRows (updI g (List.replicate M false) t))))]) (fun t => t ≤ M) (fun t => M - t) 0 ?_ (Nat.zero_le _) ?_
          · simp (maxSteps := 4000000) only [go_sem]
            refine weak_of [] ?_ ?_ rfl rfl <;> simp [lessT, lessM, lessB, AV.less]
            all_goals first | done | rfl | exact ⟨rfl, rfl⟩
          · intro t ht
            have hUl := updI_len g (List.replicate M false) t
            rw [List.length_replicate] at hUl
            simp (maxSteps := 4000000) only [go_sem]
            repeat (first | refine walkL_seq ?_ | refine walkL_skip ?_ | refine walkL_block ?_ | (refine walkL_region fun K hK => ?_; simp (maxSteps := 4000000) only [go_sem, boolRows_len, hUl]; refine hK _ ?_; clear hK K) | refine walkL_nil ?_ | refine walkL_ret ?_ | refine walkL_exit ?_ | refine blockA_here ?_ | refine blockA_other rfl ?_ | refine blockA_ret ?_ | refine blockA_normal ?_ | refine thenA_ret ?_ | refine thenA_exit ?_ | refine thenA_normal ?_)
            refine walkL_cond rfl (fun hb => ?_) (fun hb => ?_)
            · have hltt : t < M := by simpa using hb
              have hwt : IntKind.i64.wrap ((t : Int) + 1) = ((t + 1 : Nat) : Int) := by rw [wr_small (by omega)]; simp
              have w60 : IntKind.i64.wrap ((t : Int).tdiv 60) = ((t / 60 : Nat) : Int) := by
                rw [Int.tdiv_eq_ediv_of_nonneg (by omega), wr_small (by omega)]
                omega
              have hx0 : (List.replicate M false)[t]? = some false := by simp [hltt]
              have u1 := updI_get g hx0
              have u2 := updI_set g hx0
              have gu := boolRows_at u1
              have egt : g t false = minB x.opens A t := by rw [hg0]
              have c53 := f53 x.opens (t : Int) hxo
              obtain ⟨U, hU⟩ : ∃ U, U = updI g (List.replicate M false) t := ⟨_, rfl⟩
              rw [← hU] at gu u2 hUl ⊢
              have hiU : t < U.length := by omega
              unfold minB at egt
              obtain ⟨v, hv⟩ : ∃ v, v = inSpans x.opens (t : Int) := ⟨_, rfl⟩
              rw [← hv] at c53 egt
              by_cases q1 : t / 60 < A.length
              · have d1 : decide (((t / 60 : Nat) : Int) < (A.length : Int)) = true := decide_eq_true (by omega)
                obtain ⟨a, ha⟩ : ∃ a, A[t / 60]? = some a := ⟨_, List.getElem?_eq_getElem q1⟩
                have ga := boolRows_at ha
                have egt2 : g t false = (a && v) := by
                  rw [egt, decide_eq_true q1, List.getD, ha, Bool.true_and]; rfl
                cases a
                · rw [egt2, Bool.false_and] at u2
                  have su : (boolRows U).set t [.bool false] = boolRows (updI g (List.replicate M false) (t + 1)) := by rw [boolRows_set, u2]
                  repeat (first | refine walkL_true rfl ?_ | refine walkL_false rfl ?_ | refine walkL_seq ?_ | refine walkL_skip ?_ | refine walkL_block ?_ | (refine walkL_region fun K hK => ?_; simp (maxSteps := 4000000) only [go_sem, gu, hiU, w60, d1, ga, su, boolRows_len, hwt]; refine hK _ ?_; clear hK K) | (refine walkL_drawn (by kernel_rfl) (by kernel_rfl) fun K hK => ?_; simp (maxSteps := 4000000) only [go_sem, gu, hiU, w60, d1, ga, su, boolRows_len, hwt]; refine ⟨by kernel_rfl, hK _ ?_⟩; clear hK K) | refine walkL_nil ?_ | refine walkL_ret ?_ | refine walkL_exit ?_ | refine blockA_here ?_ | refine blockA_other rfl ?_ | refine blockA_ret ?_ | refine blockA_normal ?_ | refine thenA_ret ?_ | refine thenA_exit ?_ | refine thenA_normal ?_)
                  refine ⟨rfl, t + 1, ?_, hltt, by omega⟩
                  refine weak_of [] ?_ ?_ rfl rfl <;> simp [lessT, lessM, lessB, AV.less]
                  all_goals first | done | rfl | exact ⟨rfl, rfl⟩
                · rw [egt2, Bool.true_and] at u2
                  have su : (boolRows U).set t [.bool v] = boolRows (updI g (List.replicate M false) (t + 1)) := by rw [boolRows_set, u2]
                  repeat (first | refine walkL_true rfl ?_ | refine walkL_false rfl ?_ | refine walkL_seq ?_ | refine walkL_skip ?_ | refine walkL_block ?_ | (refine walkL_region fun K hK => ?_; simp (maxSteps := 4000000) only [go_sem, gu, hiU, w60, d1, ga, g0, su, boolRows_len, hwt]; (repeat (first | (refine ⟨_, .lent (hf := c53) (hd := rfl) (hr := rfl), ?_⟩; simp (maxSteps := 4000000) only [go_sem, gu, hiU, w60, d1, ga, g0, su, boolRows_len, hwt]) | (refine ⟨_, .given (hf := c53) (hd := rfl) (ha := rfl), ?_⟩; simp (maxSteps := 4000000) only [go_sem, gu, hiU, w60, d1, ga, g0, su, boolRows_len, hwt]))); refine hK _ ?_; clear hK K) | (refine walkL_drawn (by kernel_rfl) (by kernel_rfl) fun K hK => ?_; simp (maxSteps := 4000000) only [go_sem, gu, hiU, w60, d1, ga, g0, su, boolRows_len, hwt]; (repeat (first | (refine ⟨_, .fn (hf := c53) (hd := rfl) (hr := .inl rfl), ?_⟩; simp (maxSteps := 4000000) only [go_sem, gu, hiU, w60, d1, ga, g0, su, boolRows_len, hwt]))); refine ⟨by kernel_rfl, hK _ ?_⟩; clear hK K) | refine walkL_nil ?_ | refine walkL_ret ?_ | refine walkL_exit ?_ | refine blockA_here ?_ | refine blockA_other rfl ?_ | refine blockA_ret ?_ | refine blockA_normal ?_ | refine thenA_ret ?_ | refine thenA_exit ?_ | refine thenA_normal ?_)
                  refine ⟨rfl, t + 1, ?_, hltt, by omega⟩
                  refine weak_of [] ?_ ?_ rfl rfl <;> simp [lessT, lessM, lessB, AV.less]
                  all_goals first | done | rfl | exact ⟨rfl, rfl⟩
              · have d1 : decide (((t / 60 : Nat) : Int) < (A.length : Int)) = false := decide_eq_false (by omega)
                have egt2 : g t false = false := by
                  rw [egt, decide_eq_false q1, Bool.false_and, Bool.false_and]
                rw [egt2] at u2
                have su : (boolRows U).set t [.bool false] = boolRows (updI g (List.replicate M false) (t + 1)) := by rw [boolRows_set, u2]
                repeat (first | refine walkL_true rfl ?_ | refine walkL_false rfl ?_ | refine walkL_seq ?_ | refine walkL_skip ?_ | refine walkL_block ?_ | (refine walkL_region fun K hK => ?_; simp (maxSteps := 4000000) only [go_sem, gu, hiU, w60, d1, su, boolRows_len, hwt]; refine hK _ ?_; clear hK K) | (refine walkL_drawn (by kernel_rfl) (by kernel_rfl) fun K hK => ?_; simp (maxSteps := 4000000) only [go_sem, gu, hiU, w60, d1, su, boolRows_len, hwt]; refine ⟨by kernel_rfl, hK _ ?_⟩; clear hK K) | refine walkL_nil ?_ | refine walkL_ret ?_ | refine walkL_exit ?_ | refine blockA_here ?_ | refine blockA_other rfl ?_ | refine blockA_ret ?_ | refine blockA_normal ?_ | refine thenA_ret ?_ | refine thenA_exit ?_ | refine thenA_normal ?_)
                refine ⟨rfl, t + 1, ?_, hltt, by omega⟩
                refine weak_of [] ?_ ?_ rfl rfl <;> simp [lessT, lessM, lessB, AV.less]
                all_goals first | done | rfl | exact ⟨rfl, rfl⟩
            · have het : M = t := by (have : ¬ t < M := by simpa using hb); omega
              rw [← het]
              have eU : updI g (List.replicate M false) M = (List.replicate M false).mapIdx (fun (t : Nat) (_ : Bool) => minB x.opens A t) := by
                have := updI_all g (List.replicate M false)
                rw [List.length_replicate] at this
                rw [this, hg0]
              have lU : (updI g (List.replicate M false) M).length = M := by rw [updI_len, List.length_replicate]
              have c45 := f45 (updI g (List.replicate M false) M) (by omega)
              rw [hmin _ eU] at c45
              obtain ⟨U, hU⟩ : ∃ U, U = updI g (List.replicate M false) M := ⟨_, rfl⟩
              rw [← hU] at c45 ⊢
              have e2 : (pathRows L).set i [.i x.frm, .i x.to, .i x.grade, .i x.time.lo, .i x.time.hi, .i x.snow.lo, .i x.snow.hi, .sl (spanRows (X.take 6))] = pathRows (updI f n.paths (i + 1)) := by
                rw [← e1, hfx]
                exact pathRows_set L i { x with opens := X.take 6 }
              have m1 : (0 : Int) ≤ min (X.length : Int) 6 := by omega
              have m2 : min (X.length : Int) 6 ≤ (X.length : Int) := by omega
              have m3 : (0 : Int) ≤ min (X.length : Int) 6 ∧ min (X.length : Int) 6 ≤ (X.length : Int) := ⟨m1, m2⟩
              have e6 : List.take (min (X.length : Int) 6).toNat (spanRows X) = spanRows (X.take 6) := by
                have : (min (X.length : Int) 6).toNat = min X.length 6 := by omega
                rw [this]
                unfold spanRows
                by_cases h6 : 6 ≤ X.length
                · rw [Nat.min_eq_right h6, List.map_take]
                · rw [Nat.min_eq_left (by omega), List.take_of_length_le (by simp), List.take_of_length_le (by omega)]
              have e7 : List.take ((min (X.length : Int) 6).toNat - 0) (List.drop 0 (spanRows X)) = spanRows (X.take 6) := by simpa using e6
              repeat (first | refine walkL_true rfl ?_ | refine walkL_false rfl ?_ | refine walkL_seq ?_ | refine walkL_skip ?_ | refine walkL_block ?_ | (refine walkL_region fun K hK => ?_; simp (maxSteps := 4000000) only [go_sem, g1, hiL, m1, m2, m3, e6, e7, e2, hw]; (repeat (first | (refine ⟨_, .lent (hf := c45) (hd := rfl) (hr := rfl), ?_⟩; simp (maxSteps := 4000000) only [go_sem, g1, hiL, m1, m2, m3, e6, e7, e2, hw]) | (refine ⟨_, .given (hf := c45) (hd := rfl) (ha := rfl), ?_⟩; simp (maxSteps := 4000000) only [go_sem, g1, hiL, m1, m2, m3, e6, e7, e2, hw]))); refine hK _ ?_; clear hK K) | (refine walkL_drawn (by kernel_rfl) (by kernel_rfl) fun K hK => ?_; simp (maxSteps := 4000000) only [go_sem, g1, hiL, m1, m2, m3, e6, e7, e2, hw]; (repeat (first | (refine ⟨_, .fn (hf := c45) (hd := rfl) (hr := .inl rfl), ?_⟩; simp (maxSteps := 4000000) only [go_sem, g1, hiL, m1, m2, m3, e6, e7, e2, hw]))); refine ⟨by kernel_rfl, hK _ ?_⟩; clear hK K) | refine walkL_nil ?_ | refine walkL_ret ?_ | refine walkL_exit ?_ | refine blockA_here ?_ | refine blockA_other rfl ?_ | refine blockA_ret ?_ | refine blockA_normal ?_ | refine thenA_ret ?_ | refine thenA_exit ?_ | refine thenA_normal ?_)
              refine ⟨rfl, i + 1, ?_, hlt, by omega⟩
              refine weak_of [] ?_ ?_ rfl rfl <;> simp [lessT, lessM, lessB, AV.less]
              all_goals first | done | rfl | exact ⟨rfl, rfl⟩ | (rw [e6, e2]) | (rw [e2])
        · rw [q] at hfx c52
          simp only [if_true, Bool.not_true] at hfx c52
          rw [hfx, set_same hLg] at e1
          repeat (first | refine walkL_true rfl ?_ | refine walkL_false rfl ?_ | refine walkL_seq ?_ | refine walkL_skip ?_ | refine walkL_block ?_ | (refine walkL_region fun K hK => ?_; simp (maxSteps := 4000000) only [go_sem, hw]; (repeat (first | (refine ⟨_, .lent (hf := c52) (hd := rfl) (hr := rfl), ?_⟩; simp (maxSteps := 4000000) only [go_sem, hw]) | (refine ⟨_, .given (hf := c52) (hd := rfl) (ha := rfl), ?_⟩; simp (maxSteps := 4000000) only [go_sem, hw]))); refine hK _ ?_; clear hK K) | refine walkL_nil ?_ | refine walkL_ret ?_ | refine walkL_exit ?_ | refine blockA_here ?_ | refine blockA_other rfl ?_ | refine blockA_ret ?_ | refine blockA_normal ?_ | refine thenA_ret ?_ | refine thenA_exit ?_ | refine thenA_normal ?_)
          refine ⟨rfl, i + 1, ?_, hlt, by omega⟩
          rw [← e1]
          refine weak_of [] ?_ ?_ rfl rfl <;> simp [lessT, lessM, lessB, AV.less]
          all_goals first | done | rfl | exact ⟨rfl, rfl⟩
      · have he : i = n.paths.length := by (have : ¬ i < n.paths.length := by simpa using hb); omega
        subst he
        rw [updI_all]
        repeat (first | refine walkL_seq ?_ | refine walkL_skip ?_ | refine walkL_block ?_ | (refine walkL_region fun K hK => ?_; simp (maxSteps := 4000000) only [go_sem]; refine hK _ ?_; clear hK K) | refine walkL_nil ?_ | refine walkL_ret ?_ | refine walkL_exit ?_ | refine blockA_here ?_ | refine blockA_other rfl ?_ | refine blockA_ret ?_ | refine blockA_normal ?_ | refine thenA_ret ?_ | refine thenA_exit ?_ | refine thenA_normal ?_)
        simp (maxSteps := 4000000) only [go_sem, h0]
        try rfl
  · rw [if_neg h0]
    have hz0 : (e != 0) = true := by simpa using h0
    have e0 : pathRows [] = [] := rfl
    refine fn_walk 93 Tryz.call16 Tryz.func16 rfl (by decide) fun J => ?_
    simp (maxSteps := 4000000) only [go_sem, St.start, Tryz.ntmps16, Tryz.results16, Net.cells_eq]
    repeat (first | refine walkL_true rfl ?_ | refine walkL_false rfl ?_ | refine walkL_seq ?_ | refine walkL_skip ?_ | refine walkL_block ?_ | (refine walkL_region fun K hK => ?_; simp (maxSteps := 4000000) only [go_sem, hz0]; (repeat (first | (refine ⟨_, .lent (hf := h19) (hd := rfl) (hr := rfl), ?_⟩; simp (maxSteps := 4000000) only [go_sem, hz0]) | (refine ⟨_, .given (hf := h19) (hd := rfl) (ha := rfl), ?_⟩; simp (maxSteps := 4000000) only [go_sem, hz0]))); refine hK _ ?_; clear hK K) | refine walkL_nil ?_ | refine walkL_ret ?_ | refine walkL_exit ?_ | refine blockA_here ?_ | refine blockA_other rfl ?_ | refine blockA_ret ?_ | refine blockA_normal ?_ | refine thenA_ret ?_ | refine thenA_exit ?_ | refine thenA_normal ?_)
    simp (maxSteps := 4000000) only [go_sem, Net.cells_eq, e0]
    try rfl
theorem opn_short (n : Net) (rules : List Rule) (F : List (List Hour)) (seen : List Sight) (p : Int) : (opnF n rules F seen p).1.length < 2 ^ 30 ∧ (opnF n rules F seen p).2.1.length < 2 ^ 30 := by
  rw [opn_ref]
  split
  · rename_i h0
    obtain ⟨hg, _⟩ := cr_all h0
    have hH := hg.hours
    have := fun q => spansQ_len q (hd0 F).length
    constructor
    · exact Nat.lt_of_le_of_lt (this _) (by omega)
    · exact Nat.lt_of_le_of_lt (this _) (by omega)
  · simp
theorem safeF_small {n : Net} (hn : n.Small) (rules : List Rule) (F : List (List Hour)) (seen : List Sight) : (safeF n rules F seen).1.Small := by
  unfold safeF
  split
  · refine ⟨by dsimp only; rw [List.length_mapIdx]; exact hn.paths, fun x' hx' => ?_⟩
    dsimp only at hx'
    obtain ⟨i, hi⟩ := List.getElem?_of_mem hx'
    rw [List.getElem?_mapIdx] at hi
    obtain ⟨x, hx, rfl⟩ := Option.map_eq_some_iff.1 hi
    have := hn.opens x (List.mem_of_getElem? hx)
    unfold safeP
    split
    · exact this
    · dsimp only
      unfold safeOpens
      rw [List.length_take]
      omega
  · exact ⟨by simp, fun x hx => by simp at hx⟩
theorem f3 (F : List (List Hour)) (seen : List Sight) (u : RuledX) (hs : ForeSmall F) (hsl : seen.length < 2 ^ 30) (hu : u.net.Small) (hr : u.rules.length < 2 ^ 30) : Fn Tryz.prog 3 [.agg [.sl (scenRows F)], .sl (sightRows seen), .agg u.cells] (.bool true) := by
  obtain ⟨n, rules, p⟩ := u
  dsimp only at hu hr
  have h7 := f7 F seen hs
  have h8 := f8 ⟨n, rules, p⟩ hu
  have h9 := f9
  rw [RuledX.cells] at h8
  dsimp only at h8
  obtain ⟨q8, hq8⟩ : ∃ q, q = farRules ⟨n, rules, p⟩ := ⟨_, rfl⟩
  rw [← hq8] at h8
  cases q : far5 F seen
  · rw [q] at h7
    cases q8
    · have h10 := f10 F hs
      have h11 := f11 n hu
      have h12 := f12o n rules F seen p hu hr hs hsl
      have h13 := f13 n rules F seen p hu hr hs hsl
      have h15 := f15 n rules F seen hu hr hs hsl
      have h16 := f16 n rules F seen hu hr hs hsl
      have h17 := f17 (safeF n rules F seen).1 (safeF_small hu rules F seen)
      have h1 : seen.length ≤ 549755813888 := by omega
      have h2 : 0 + seen.length ≤ 549755813888 := by omega
      have h3 : rules.length ≤ 549755813888 := by omega
      have h4 : 0 + rules.length ≤ 549755813888 := by omega
      obtain ⟨l1, l2⟩ := opn_short n rules F seen p
      obtain ⟨K, hK⟩ : ∃ K, K = opnF n rules F seen p := ⟨_, rfl⟩
      obtain ⟨M, hM⟩ : ∃ M, M = safeF n rules F seen := ⟨_, rfl⟩
      rw [← hK] at h12 h13 l1 l2
      rw [← hM] at h15 h16 h17
      obtain ⟨a, b, c⟩ := K
      obtain ⟨⟨mp, ml⟩, e⟩ := M
      dsimp only at h12 h13 h15 h16 h17 l1 l2
      have ca := f14 a l1
      have cb := f14 b l2
      rw [Net.cells_eq] at h11 h12 h13 h15 h16 h17
      try rw [Net.cells_eq] at h15
      try rw [Net.cells_eq] at h16
      dsimp only at h11 h12 h13 h15 h16 h17
      have n1 : ∀ z : Int, (z != z) = false := fun z => by simp
      have n2 : ∀ z : Int, (z == z) = true := fun z => by simp
      refine fn_walk 107 Tryz.call3 Tryz.func3 rfl (by decide) fun J => ?_
      simp (maxSteps := 4000000) only [go_sem, St.start, Tryz.ntmps3, Tryz.results3, RuledX.cells]
      repeat (first | refine walkL_true rfl ?_ | refine walkL_false rfl ?_ | refine walkL_seq ?_ | refine walkL_skip ?_ | refine walkL_block ?_ | (refine walkL_region fun K hK => ?_; simp (maxSteps := 4000000) only [go_sem, h1, h2, List.nil_append, List.length_nil]; (repeat (first | (refine ⟨_, .lent (hf := h7) (hd := rfl) (hr := rfl), ?_⟩; simp (maxSteps := 4000000) only [go_sem, h1, h2, List.nil_append, List.length_nil]) | (refine ⟨_, .lent (hf := h8) (hd := rfl) (hr := rfl), ?_⟩; simp (maxSteps := 4000000) only [go_sem, h1, h2, List.nil_append, List.length_nil]) | (refine ⟨_, .lent (hf := h10) (hd := rfl) (hr := rfl), ?_⟩; simp (maxSteps := 4000000) only [go_sem, h1, h2, List.nil_append, List.length_nil]) | (refine ⟨_, .given (hf := h7) (hd := rfl) (ha := rfl), ?_⟩; simp (maxSteps := 4000000) only [go_sem, h1, h2, List.nil_append, List.length_nil]) | (refine ⟨_, .given (hf := h8) (hd := rfl) (ha := rfl), ?_⟩; simp (maxSteps := 4000000) only [go_sem, h1, h2, List.nil_append, List.length_nil]) | (refine ⟨_, .given (hf := h10) (hd := rfl) (ha := rfl), ?_⟩; simp (maxSteps := 4000000) only [go_sem, h1, h2, List.nil_append, List.length_nil]))); refine hK _ ?_; clear hK K) | refine walkL_nil ?_ | refine walkL_ret ?_ | refine walkL_exit ?_ | refine blockA_here ?_ | refine blockA_other rfl ?_ | refine blockA_ret ?_ | refine blockA_normal ?_ | refine thenA_ret ?_ | refine thenA_exit ?_ | refine thenA_normal ?_)
      refine walkL_drawnR [38] (by kernel_rfl) (by kernel_rfl) fun K hK => ?_
      simp (maxSteps := 4000000) only [go_sem, h3, h4, List.nil_append, List.length_nil]
      refine ⟨_, .fn (hf := h11) (hd := rfl) (hr := .inr rfl), ?_⟩
      simp (maxSteps := 4000000) only [go_sem, h3, h4, List.nil_append, List.length_nil]
      refine ⟨by kernel_rfl, hK _ ?_⟩
      clear hK K
      repeat (first | refine walkL_true rfl ?_ | refine walkL_false rfl ?_ | refine walkL_seq ?_ | refine walkL_skip ?_ | refine walkL_block ?_ | (refine walkL_region fun K hK => ?_; simp (maxSteps := 4000000) only [go_sem, n1, n2]; (repeat (first | (refine ⟨_, .lent (hf := h12) (hd := rfl) (hr := rfl), ?_⟩; simp (maxSteps := 4000000) only [go_sem, n1, n2]) | (refine ⟨_, .lent (hf := h13) (hd := rfl) (hr := rfl), ?_⟩; simp (maxSteps := 4000000) only [go_sem, n1, n2]) | (refine ⟨_, .lent (hf := ca) (hd := rfl) (hr := rfl), ?_⟩; simp (maxSteps := 4000000) only [go_sem, n1, n2]) | (refine ⟨_, .lent (hf := cb) (hd := rfl) (hr := rfl), ?_⟩; simp (maxSteps := 4000000) only [go_sem, n1, n2]) | (refine ⟨_, .lent (hf := h15) (hd := rfl) (hr := rfl), ?_⟩; simp (maxSteps := 4000000) only [go_sem, n1, n2]) | (refine ⟨_, .lent (hf := h16) (hd := rfl) (hr := rfl), ?_⟩; simp (maxSteps := 4000000) only [go_sem, n1, n2]) | (refine ⟨_, .lent (hf := h17) (hd := rfl) (hr := rfl), ?_⟩; simp (maxSteps := 4000000) only [go_sem, n1, n2]) | (refine ⟨_, .lent (hf := h9) (hd := rfl) (hr := rfl), ?_⟩; simp (maxSteps := 4000000) only [go_sem, n1, n2]) | (refine ⟨_, .given (hf := h12) (hd := rfl) (ha := rfl), ?_⟩; simp (maxSteps := 4000000) only [go_sem, n1, n2]) | (refine ⟨_, .given (hf := h13) (hd := rfl) (ha := rfl), ?_⟩; simp (maxSteps := 4000000) only [go_sem, n1, n2]) | (refine ⟨_, .given (hf := ca) (hd := rfl) (ha := rfl), ?_⟩; simp (maxSteps := 4000000) only [go_sem, n1, n2]) | (refine ⟨_, .given (hf := cb) (hd := rfl) (ha := rfl), ?_⟩; simp (maxSteps := 4000000) only [go_sem, n1, n2]) | (refine ⟨_, .given (hf := h15) (hd := rfl) (ha := rfl), ?_⟩; simp (maxSteps := 4000000) only [go_sem, n1, n2]) | (refine ⟨_, .given (hf := h16) (hd := rfl) (ha := rfl), ?_⟩; simp (maxSteps := 4000000) only [go_sem, n1, n2]) | (refine ⟨_, .given (hf := h17) (hd := rfl) (ha := rfl), ?_⟩; simp (maxSteps := 4000000) only [go_sem, n1, n2]) | (refine ⟨_, .given (hf := h9) (hd := rfl) (ha := rfl), ?_⟩; simp (maxSteps := 4000000) only [go_sem, n1, n2]))); refine hK _ ?_; clear hK K) | (refine walkL_drawn (by kernel_rfl) (by kernel_rfl) fun K hK => ?_; simp (maxSteps := 4000000) only [go_sem, n1, n2]; (repeat (first | (refine ⟨_, .fn (hf := h12) (hd := rfl) (hr := .inl rfl), ?_⟩; simp (maxSteps := 4000000) only [go_sem, n1, n2]) | (refine ⟨_, .fn (hf := h13) (hd := rfl) (hr := .inl rfl), ?_⟩; simp (maxSteps := 4000000) only [go_sem, n1, n2]) | (refine ⟨_, .fn (hf := ca) (hd := rfl) (hr := .inl rfl), ?_⟩; simp (maxSteps := 4000000) only [go_sem, n1, n2]) | (refine ⟨_, .fn (hf := cb) (hd := rfl) (hr := .inl rfl), ?_⟩; simp (maxSteps := 4000000) only [go_sem, n1, n2]) | (refine ⟨_, .fn (hf := h15) (hd := rfl) (hr := .inl rfl), ?_⟩; simp (maxSteps := 4000000) only [go_sem, n1, n2]) | (refine ⟨_, .fn (hf := h16) (hd := rfl) (hr := .inl rfl), ?_⟩; simp (maxSteps := 4000000) only [go_sem, n1, n2]) | (refine ⟨_, .fn (hf := h17) (hd := rfl) (hr := .inl rfl), ?_⟩; simp (maxSteps := 4000000) only [go_sem, n1, n2]) | (refine ⟨_, .fn (hf := h9) (hd := rfl) (hr := .inl rfl), ?_⟩; simp (maxSteps := 4000000) only [go_sem, n1, n2]))); refine ⟨by kernel_rfl, hK _ ?_⟩; clear hK K) | refine walkL_nil ?_ | refine walkL_ret ?_ | refine walkL_exit ?_ | refine blockA_here ?_ | refine blockA_other rfl ?_ | refine blockA_ret ?_ | refine blockA_normal ?_ | refine thenA_ret ?_ | refine thenA_exit ?_ | refine thenA_normal ?_)
      simp (maxSteps := 4000000) only [go_sem]
    · refine fn_walk 107 Tryz.call3 Tryz.func3 rfl (by decide) fun J => ?_
      simp (maxSteps := 4000000) only [go_sem, St.start, Tryz.ntmps3, Tryz.results3, RuledX.cells]
      repeat (first | refine walkL_true rfl ?_ | refine walkL_false rfl ?_ | refine walkL_seq ?_ | refine walkL_skip ?_ | refine walkL_block ?_ | (refine walkL_region fun K hK => ?_; simp (maxSteps := 4000000) only [go_sem]; (repeat (first | (refine ⟨_, .lent (hf := h7) (hd := rfl) (hr := rfl), ?_⟩; simp (maxSteps := 4000000) only [go_sem]) | (refine ⟨_, .lent (hf := h8) (hd := rfl) (hr := rfl), ?_⟩; simp (maxSteps := 4000000) only [go_sem]) | (refine ⟨_, .lent (hf := h9) (hd := rfl) (hr := rfl), ?_⟩; simp (maxSteps := 4000000) only [go_sem]) | (refine ⟨_, .given (hf := h7) (hd := rfl) (ha := rfl), ?_⟩; simp (maxSteps := 4000000) only [go_sem]) | (refine ⟨_, .given (hf := h8) (hd := rfl) (ha := rfl), ?_⟩; simp (maxSteps := 4000000) only [go_sem]) | (refine ⟨_, .given (hf := h9) (hd := rfl) (ha := rfl), ?_⟩; simp (maxSteps := 4000000) only [go_sem]))); refine hK _ ?_; clear hK K) | refine walkL_nil ?_ | refine walkL_ret ?_ | refine walkL_exit ?_ | refine blockA_here ?_ | refine blockA_other rfl ?_ | refine blockA_ret ?_ | refine blockA_normal ?_ | refine thenA_ret ?_ | refine thenA_exit ?_ | refine thenA_normal ?_)
      simp (maxSteps := 4000000) only [go_sem]
  · rw [q] at h7
    refine fn_walk 107 Tryz.call3 Tryz.func3 rfl (by decide) fun J => ?_
    simp (maxSteps := 4000000) only [go_sem, St.start, Tryz.ntmps3, Tryz.results3, RuledX.cells]
    repeat (first | refine walkL_true rfl ?_ | refine walkL_false rfl ?_ | refine walkL_seq ?_ | refine walkL_skip ?_ | refine walkL_block ?_ | (refine walkL_region fun K hK => ?_; simp (maxSteps := 4000000) only [go_sem]; (repeat (first | (refine ⟨_, .lent (hf := h7) (hd := rfl) (hr := rfl), ?_⟩; simp (maxSteps := 4000000) only [go_sem]) | (refine ⟨_, .lent (hf := h9) (hd := rfl) (hr := rfl), ?_⟩; simp (maxSteps := 4000000) only [go_sem]) | (refine ⟨_, .given (hf := h7) (hd := rfl) (ha := rfl), ?_⟩; simp (maxSteps := 4000000) only [go_sem]) | (refine ⟨_, .given (hf := h9) (hd := rfl) (ha := rfl), ?_⟩; simp (maxSteps := 4000000) only [go_sem]))); refine hK _ ?_; clear hK K) | refine walkL_nil ?_ | refine walkL_ret ?_ | refine walkL_exit ?_ | refine blockA_here ?_ | refine blockA_other rfl ?_ | refine blockA_ret ?_ | refine blockA_normal ?_ | refine thenA_ret ?_ | refine thenA_exit ?_ | refine thenA_normal ?_)
    simp (maxSteps := 4000000) only [go_sem]
end Go.Ab
