/- A walk engine over abstract states, and the contracts of the functions that the statement reaches: part 5. -/
import Derived.Test.YtlcbalngfpgjdaaGreatDoorWd
import Derived.ChangeArms
import Derived.Test.YtlcbalngfpgjdaaGreatDoorRows
import Derived.JoinedCond
import Derived.Carry
import Derived.RowKit
import Derived.LaidMore
import Derived.LaidLaws
import Derived.LaidHandle
import Derived.MakeChecks
import Derived.Deep.Strs
set_option linter.unusedVariables false
set_option linter.unusedSimpArgs false
set_option linter.unnecessarySimpa false
namespace Go.Ab
open Go.RowKit Go.Proofs
set_option maxHeartbeats 4000000
attribute [local irreducible] WalkL Walk
def badParty (p : Party) : Bool := !withinB p.grade 1 6 || (!orderedB p.pace 50 300 || !withinB p.load 0 40)
def checkPartyF (n : Net) (p : Party) : Int := if badNet n then 10 else if badParty p then 11 else 0
theorem f31 (n : Net) (p : Party) (hs : n.Small) : Fn Tryz.prog 31 [.agg n.cells, .agg p.cells] (.i (checkPartyF n p)) := by
  refine fn_walk 27 Tryz.call31 Tryz.func31 rfl (by decide) fun J => ?_
  simp (maxSteps := 4000000) only [go_sem, St.start, Tryz.ntmps31, Tryz.results31, Net.cells, Party.cells]
  repeat (first | refine walkL_seq ?_ | refine walkL_skip ?_ | refine walkL_block ?_ | (refine walkL_region fun K hK => ?_; simp (maxSteps := 4000000) only [go_sem]; (repeat (first | (refine ⟨_, .lent (hf := f42 n hs) (hd := rfl) (hr := rfl), ?_⟩; simp (maxSteps := 4000000) only [go_sem]) | (refine ⟨_, .given (hf := f42 n hs) (hd := rfl) (ha := rfl), ?_⟩; simp (maxSteps := 4000000) only [go_sem]))); refine hK _ ?_; clear hK K) | refine walkL_nil ?_ | refine walkL_ret ?_ | refine walkL_exit ?_ | refine blockA_here ?_ | refine blockA_other rfl ?_ | refine blockA_ret ?_ | refine blockA_normal ?_ | refine thenA_ret ?_ | refine thenA_exit ?_ | refine thenA_normal ?_)
  by_cases hb : badNet n = true
  · try simp (maxSteps := 4000000) only [go_sem, checkF, hb]
    refine walkL_true rfl ?_
    repeat (first | refine walkL_seq ?_ | refine walkL_skip ?_ | refine walkL_block ?_ | (refine walkL_region fun K hK => ?_; simp (maxSteps := 4000000) only [go_sem]; refine hK _ ?_; clear hK K) | refine walkL_nil ?_ | refine walkL_ret ?_ | refine walkL_exit ?_ | refine blockA_here ?_ | refine blockA_other rfl ?_ | refine blockA_ret ?_ | refine blockA_normal ?_ | refine thenA_ret ?_ | refine thenA_exit ?_ | refine thenA_normal ?_)
    simp (maxSteps := 4000000) only [go_sem, checkPartyF, hb]
  · try simp (maxSteps := 4000000) only [go_sem, checkF, hb]
    refine walkL_false rfl ?_
    repeat (first | refine walkL_seq ?_ | refine walkL_skip ?_ | refine walkL_block ?_ | (refine walkL_region fun K hK => ?_; simp (maxSteps := 4000000) only [go_sem]; refine hK _ ?_; clear hK K) | refine walkL_nil ?_ | refine walkL_ret ?_ | refine walkL_exit ?_ | refine blockA_here ?_ | refine blockA_other rfl ?_ | refine blockA_ret ?_ | refine blockA_normal ?_ | refine thenA_ret ?_ | refine thenA_exit ?_ | refine thenA_normal ?_)
    refine walkL_meetS [(26, .d (.bool (badParty p)))] [] ?_ ?_
    · refine walkL_region fun K hK => ?_
      simp (maxSteps := 4000000) only [go_sem]
      refine ⟨_, .lent (hf := f75 p.grade 1 6) (hd := rfl) (hr := rfl), ?_⟩
      simp (maxSteps := 4000000) only [go_sem]
      by_cases ho0 : (!withinB p.grade 1 6) = true
      · simp (maxSteps := 4000000) only [go_sem, ho0]
        refine hK _ ?_
        clear hK K
        refine walkL_nil ?_
        refine thenA_normal ?_
        refine ⟨rfl, ?_⟩
        rw [show (badParty p) = (true) from by simp [badParty, ho0]]
        simp (maxSteps := 4000000) only [go_sem]
        refine weak_of [] ?_ ?_ rfl rfl <;> simp [lessT, lessM, lessB, AV.less]
      · simp (maxSteps := 4000000) only [go_sem, ho0]
        refine ⟨_, .lent (hf := f76 p.pace 50 300) (hd := rfl) (hr := rfl), ?_⟩
        simp (maxSteps := 4000000) only [go_sem, ho0]
        by_cases ho1 : (!orderedB p.pace 50 300) = true
        · simp (maxSteps := 4000000) only [go_sem, ho0, ho1]
          refine hK _ ?_
          clear hK K
          refine walkL_nil ?_
          refine thenA_normal ?_
          refine ⟨rfl, ?_⟩
          rw [show (badParty p) = (true) from by simp [badParty, ho0, ho1]]
          simp (maxSteps := 4000000) only [go_sem]
          refine weak_of [] ?_ ?_ rfl rfl <;> simp [lessT, lessM, lessB, AV.less]
        · simp (maxSteps := 4000000) only [go_sem, ho0, ho1]
          refine ⟨_, .lent (hf := f75 p.load 0 40) (hd := rfl) (hr := rfl), ?_⟩
          simp (maxSteps := 4000000) only [go_sem, ho0, ho1]
          refine hK _ ?_
          clear hK K
          refine walkL_nil ?_
          refine thenA_normal ?_
          refine ⟨rfl, ?_⟩
          rw [show (badParty p) = (!withinB p.load 0 40) from by simp [badParty, ho0, ho1]]
          simp (maxSteps := 4000000) only [go_sem]
          refine weak_of [] ?_ ?_ rfl rfl <;> simp [lessT, lessM, lessB, AV.less]
    simp (maxSteps := 4000000) only [go_sem]
    refine walkL_cond rfl (fun hc => ?_) (fun hc => ?_)
    · repeat (first | refine walkL_seq ?_ | refine walkL_skip ?_ | refine walkL_block ?_ | (refine walkL_region fun K hK => ?_; simp (maxSteps := 4000000) only [go_sem]; refine hK _ ?_; clear hK K) | refine walkL_nil ?_ | refine walkL_ret ?_ | refine walkL_exit ?_ | refine blockA_here ?_ | refine blockA_other rfl ?_ | refine blockA_ret ?_ | refine blockA_normal ?_ | refine thenA_ret ?_ | refine thenA_exit ?_ | refine thenA_normal ?_)
      simp (maxSteps := 4000000) only [go_sem, checkPartyF, hb, hc]
    · repeat (first | refine walkL_seq ?_ | refine walkL_skip ?_ | refine walkL_block ?_ | (refine walkL_region fun K hK => ?_; simp (maxSteps := 4000000) only [go_sem]; refine hK _ ?_; clear hK K) | refine walkL_nil ?_ | refine walkL_ret ?_ | refine walkL_exit ?_ | refine blockA_here ?_ | refine blockA_other rfl ?_ | refine blockA_ret ?_ | refine blockA_normal ?_ | refine thenA_ret ?_ | refine thenA_exit ?_ | refine thenA_normal ?_)
      simp (maxSteps := 4000000) only [go_sem, checkPartyF, hb, hc]
theorem f120 (n : Net) (p : Party) (hs : n.Small) : Fn Tryz.prog 120 [.agg n.cells, .agg p.cells] (.tup [.agg (walkCells n p), .i (checkPartyF n p)]) := by
  refine fn_walk 35 Tryz.call120 Tryz.func120 rfl (by decide) fun J => ?_
  simp (maxSteps := 4000000) only [go_sem, St.start, Tryz.ntmps120, Tryz.results120, Net.cells, Party.cells, walkCells]
  repeat (first | refine walkL_seq ?_ | refine walkL_skip ?_ | refine walkL_block ?_ | (refine walkL_region fun K hK => ?_; simp (maxSteps := 4000000) only [go_sem]; (repeat (first | (refine ⟨_, .lent (hf := f86 n hs) (hd := rfl) (hr := rfl), ?_⟩; simp (maxSteps := 4000000) only [go_sem]) | (refine ⟨_, .given (hf := f86 n hs) (hd := rfl) (ha := rfl), ?_⟩; simp (maxSteps := 4000000) only [go_sem]))); refine hK _ ?_; clear hK K) | refine walkL_nil ?_ | refine walkL_ret ?_ | refine walkL_exit ?_ | refine blockA_here ?_ | refine blockA_other rfl ?_ | refine blockA_ret ?_ | refine blockA_normal ?_ | refine thenA_ret ?_ | refine thenA_exit ?_ | refine thenA_normal ?_)
  by_cases hb : badNet n = true
  · try simp (maxSteps := 4000000) only [go_sem, checkF, hb]
    refine walkL_true rfl ?_
    repeat (first | refine walkL_seq ?_ | refine walkL_skip ?_ | refine walkL_block ?_ | (refine walkL_region fun K hK => ?_; simp (maxSteps := 4000000) only [go_sem]; refine hK _ ?_; clear hK K) | refine walkL_nil ?_ | refine walkL_ret ?_ | refine walkL_exit ?_ | refine blockA_here ?_ | refine blockA_other rfl ?_ | refine blockA_ret ?_ | refine blockA_normal ?_ | refine thenA_ret ?_ | refine thenA_exit ?_ | refine thenA_normal ?_)
    simp (maxSteps := 4000000) only [go_sem, checkPartyF, hb, walkCells]
  · try simp (maxSteps := 4000000) only [go_sem, checkF, hb]
    refine walkL_false rfl ?_
    repeat (first | refine walkL_seq ?_ | refine walkL_skip ?_ | refine walkL_block ?_ | (refine walkL_region fun K hK => ?_; simp (maxSteps := 4000000) only [go_sem]; refine hK _ ?_; clear hK K) | refine walkL_nil ?_ | refine walkL_ret ?_ | refine walkL_exit ?_ | refine blockA_here ?_ | refine blockA_other rfl ?_ | refine blockA_ret ?_ | refine blockA_normal ?_ | refine thenA_ret ?_ | refine thenA_exit ?_ | refine thenA_normal ?_)
    refine walkL_meetS [(32, .d (.bool (badParty p)))] [] ?_ ?_
    · refine walkL_region fun K hK => ?_
      simp (maxSteps := 4000000) only [go_sem]
      refine ⟨_, .lent (hf := f123 p.grade 1 6) (hd := rfl) (hr := rfl), ?_⟩
      simp (maxSteps := 4000000) only [go_sem]
      by_cases ho0 : (!withinB p.grade 1 6) = true
      · simp (maxSteps := 4000000) only [go_sem, ho0]
        refine hK _ ?_
        clear hK K
        refine walkL_nil ?_
        refine thenA_normal ?_
        refine ⟨rfl, ?_⟩
        rw [show (badParty p) = (true) from by simp [badParty, ho0]]
        simp (maxSteps := 4000000) only [go_sem]
        refine weak_of [] ?_ ?_ rfl rfl <;> simp [lessT, lessM, lessB, AV.less]
      · simp (maxSteps := 4000000) only [go_sem, ho0]
        refine ⟨_, .lent (hf := f135 p.pace 50 300) (hd := rfl) (hr := rfl), ?_⟩
        simp (maxSteps := 4000000) only [go_sem, ho0]
        by_cases ho1 : (!orderedB p.pace 50 300) = true
        · simp (maxSteps := 4000000) only [go_sem, ho0, ho1]
          refine hK _ ?_
          clear hK K
          refine walkL_nil ?_
          refine thenA_normal ?_
          refine ⟨rfl, ?_⟩
          rw [show (badParty p) = (true) from by simp [badParty, ho0, ho1]]
          simp (maxSteps := 4000000) only [go_sem]
          refine weak_of [] ?_ ?_ rfl rfl <;> simp [lessT, lessM, lessB, AV.less]
        · simp (maxSteps := 4000000) only [go_sem, ho0, ho1]
          refine ⟨_, .lent (hf := f123 p.load 0 40) (hd := rfl) (hr := rfl), ?_⟩
          simp (maxSteps := 4000000) only [go_sem, ho0, ho1]
          refine hK _ ?_
          clear hK K
          refine walkL_nil ?_
          refine thenA_normal ?_
          refine ⟨rfl, ?_⟩
          rw [show (badParty p) = (!withinB p.load 0 40) from by simp [badParty, ho0, ho1]]
          simp (maxSteps := 4000000) only [go_sem]
          refine weak_of [] ?_ ?_ rfl rfl <;> simp [lessT, lessM, lessB, AV.less]
    simp (maxSteps := 4000000) only [go_sem]
    refine walkL_cond rfl (fun hc => ?_) (fun hc => ?_)
    · repeat (first | refine walkL_seq ?_ | refine walkL_skip ?_ | refine walkL_block ?_ | (refine walkL_region fun K hK => ?_; simp (maxSteps := 4000000) only [go_sem]; refine hK _ ?_; clear hK K) | refine walkL_nil ?_ | refine walkL_ret ?_ | refine walkL_exit ?_ | refine blockA_here ?_ | refine blockA_other rfl ?_ | refine blockA_ret ?_ | refine blockA_normal ?_ | refine thenA_ret ?_ | refine thenA_exit ?_ | refine thenA_normal ?_)
      simp (maxSteps := 4000000) only [go_sem, checkPartyF, hb, hc, walkCells]
    · repeat (first | refine walkL_seq ?_ | refine walkL_skip ?_ | refine walkL_block ?_ | (refine walkL_region fun K hK => ?_; simp (maxSteps := 4000000) only [go_sem]; refine hK _ ?_; clear hK K) | refine walkL_nil ?_ | refine walkL_ret ?_ | refine walkL_exit ?_ | refine blockA_here ?_ | refine blockA_other rfl ?_ | refine blockA_ret ?_ | refine blockA_normal ?_ | refine thenA_ret ?_ | refine thenA_exit ?_ | refine thenA_normal ?_)
      simp (maxSteps := 4000000) only [go_sem, checkPartyF, hb, hc, walkCells]
theorem f122 (n : Net) (x : Int) (hn : 0 ≤ n.places ∧ n.places < 2 ^ 62) : Fn Tryz.prog 122 [.i x, .ptr n.cells 0] (.bool (!withinB x 0 (n.places - 1))) := by
  refine fn_walk 10 Tryz.call122 Tryz.func122 rfl (by decide) fun J => ?_
  simp (maxSteps := 4000000) only [go_sem, St.start, Tryz.ntmps122, Tryz.results122, Net.cells]
  have hw : IntKind.i64.wrap (n.places - 1) = n.places - 1 := wr_small (by omega)
  repeat (first | refine walkL_seq ?_ | refine walkL_skip ?_ | refine walkL_block ?_ | (refine walkL_region fun K hK => ?_; simp (maxSteps := 4000000) only [go_sem, hw]; (repeat (first | (refine ⟨_, .lent (hf := f123 _ _ _) (hd := rfl) (hr := rfl), ?_⟩; simp (maxSteps := 4000000) only [go_sem, hw]) | (refine ⟨_, .given (hf := f123 _ _ _) (hd := rfl) (ha := rfl), ?_⟩; simp (maxSteps := 4000000) only [go_sem, hw]))); refine hK _ ?_; clear hK K) | refine walkL_nil ?_ | refine walkL_ret ?_ | refine walkL_exit ?_ | refine blockA_here ?_ | refine blockA_other rfl ?_ | refine blockA_ret ?_ | refine blockA_normal ?_ | refine thenA_ret ?_ | refine thenA_exit ?_ | refine thenA_normal ?_)
  simp (maxSteps := 4000000) only [go_sem]
theorem f124 (x : Int) : Fn Tryz.prog 124 [.i x] (.bool (!withinB x 0 2880)) := by
  refine fn_walk 6 Tryz.call124 Tryz.func124 rfl (by decide) fun J => ?_
  simp (maxSteps := 4000000) only [go_sem, St.start, Tryz.ntmps124, Tryz.results124]
  repeat (first | refine walkL_seq ?_ | refine walkL_skip ?_ | refine walkL_block ?_ | (refine walkL_region fun K hK => ?_; simp (maxSteps := 4000000) only [go_sem]; (repeat (first | (refine ⟨_, .lent (hf := f123 _ _ _) (hd := rfl) (hr := rfl), ?_⟩; simp (maxSteps := 4000000) only [go_sem]) | (refine ⟨_, .given (hf := f123 _ _ _) (hd := rfl) (ha := rfl), ?_⟩; simp (maxSteps := 4000000) only [go_sem]))); refine hK _ ?_; clear hK K) | refine walkL_nil ?_ | refine walkL_ret ?_ | refine walkL_exit ?_ | refine blockA_here ?_ | refine blockA_other rfl ?_ | refine blockA_ret ?_ | refine blockA_normal ?_ | refine thenA_ret ?_ | refine thenA_exit ?_ | refine thenA_normal ?_)
  simp (maxSteps := 4000000) only [go_sem]
def badAsk (n : Net) (places minutes : List Int) : Bool := places.any (fun x => !withinB x 0 (n.places - 1)) || minutes.any (fun x => !withinB x 0 2880)
def openF (n : Net) (p : Party) (places minutes : List Int) : Int := if badNet n then 10 else if badParty p then 11 else if badAsk n places minutes then 1 else 0
theorem good_places {n : Net} (h : ¬ badNet n = true) : 1 ≤ n.places ∧ n.places ≤ 12 := by
  have : badNet n = false := by simpa using h
  unfold badNet at this
  rw [Bool.or_eq_false_iff] at this
  exact within_iff.1 (by simpa using this.1)
theorem f77 (n : Net) (p : Party) (places minutes : List Int) (hs : n.Small) (h1 : places.length < 2 ^ 62) (h2 : minutes.length < 2 ^ 62) :
    Fn Tryz.prog 77 [.agg n.cells, .agg p.cells, .agg [.sl (intRows places), .sl (intRows minutes)]] (.tup [.agg (walkCells n p), .i (openF n p places minutes)]) := by
  refine fn_walk 31 Tryz.call77 Tryz.func77 rfl (by decide) fun J => ?_
  simp (maxSteps := 4000000) only [go_sem, St.start, Tryz.ntmps77, Tryz.results77, Net.cells, Party.cells]
  have h73 := f120 n p hs
  by_cases hb : badNet n = true
  · repeat (first | refine walkL_seq ?_ | refine walkL_skip ?_ | refine walkL_block ?_ | (refine walkL_region fun K hK => ?_; simp (maxSteps := 4000000) only [go_sem, checkPartyF, hb, walkCells]; (repeat (first | (refine ⟨_, .lent (hf := h73) (hd := rfl) (hr := rfl), ?_⟩; simp (maxSteps := 4000000) only [go_sem, checkPartyF, hb, walkCells]) | (refine ⟨_, .given (hf := h73) (hd := rfl) (ha := rfl), ?_⟩; simp (maxSteps := 4000000) only [go_sem, checkPartyF, hb, walkCells]))); refine hK _ ?_; clear hK K) | refine walkL_nil ?_ | refine walkL_ret ?_ | refine walkL_exit ?_ | refine blockA_here ?_ | refine blockA_other rfl ?_ | refine blockA_ret ?_ | refine blockA_normal ?_ | refine thenA_ret ?_ | refine thenA_exit ?_ | refine thenA_normal ?_)
    try simp (maxSteps := 4000000) only [go_sem, checkPartyF, hb]
    refine walkL_true rfl ?_
    repeat (first | refine walkL_seq ?_ | refine walkL_skip ?_ | refine walkL_block ?_ | (refine walkL_region fun K hK => ?_; simp (maxSteps := 4000000) only [go_sem, walkCells]; refine hK _ ?_; clear hK K) | refine walkL_nil ?_ | refine walkL_ret ?_ | refine walkL_exit ?_ | refine blockA_here ?_ | refine blockA_other rfl ?_ | refine blockA_ret ?_ | refine blockA_normal ?_ | refine thenA_ret ?_ | refine thenA_exit ?_ | refine thenA_normal ?_)
    simp (maxSteps := 4000000) only [go_sem, openF, hb, walkCells]
  · by_cases hp : badParty p = true
    · repeat (first | refine walkL_seq ?_ | refine walkL_skip ?_ | refine walkL_block ?_ | (refine walkL_region fun K hK => ?_; simp (maxSteps := 4000000) only [go_sem, checkPartyF, hb, hp, walkCells]; (repeat (first | (refine ⟨_, .lent (hf := h73) (hd := rfl) (hr := rfl), ?_⟩; simp (maxSteps := 4000000) only [go_sem, checkPartyF, hb, hp, walkCells]) | (refine ⟨_, .given (hf := h73) (hd := rfl) (ha := rfl), ?_⟩; simp (maxSteps := 4000000) only [go_sem, checkPartyF, hb, hp, walkCells]))); refine hK _ ?_; clear hK K) | refine walkL_nil ?_ | refine walkL_ret ?_ | refine walkL_exit ?_ | refine blockA_here ?_ | refine blockA_other rfl ?_ | refine blockA_ret ?_ | refine blockA_normal ?_ | refine thenA_ret ?_ | refine thenA_exit ?_ | refine thenA_normal ?_)
      try simp (maxSteps := 4000000) only [go_sem, checkPartyF, hb, hp]
      refine walkL_true rfl ?_
      repeat (first | refine walkL_seq ?_ | refine walkL_skip ?_ | refine walkL_block ?_ | (refine walkL_region fun K hK => ?_; simp (maxSteps := 4000000) only [go_sem, walkCells]; refine hK _ ?_; clear hK K) | refine walkL_nil ?_ | refine walkL_ret ?_ | refine walkL_exit ?_ | refine blockA_here ?_ | refine blockA_other rfl ?_ | refine blockA_ret ?_ | refine blockA_normal ?_ | refine thenA_ret ?_ | refine thenA_exit ?_ | refine thenA_normal ?_)
      simp (maxSteps := 4000000) only [go_sem, openF, hb, hp, walkCells]
    · have hg := good_places hb
      have h84 := fun x (_ : x ∈ places) => f122 n x (by omega)
      have h85 := fun x (_ : x ∈ minutes) => f124 x
      repeat (first | refine walkL_seq ?_ | refine walkL_skip ?_ | refine walkL_block ?_ | (refine walkL_region fun K hK => ?_; simp (maxSteps := 4000000) only [go_sem, checkPartyF, hb, hp, walkCells]; (repeat (first | (refine ⟨_, .lent (hf := h73) (hd := rfl) (hr := rfl), ?_⟩; simp (maxSteps := 4000000) only [go_sem, checkPartyF, hb, hp, walkCells]) | (refine ⟨_, .given (hf := h73) (hd := rfl) (ha := rfl), ?_⟩; simp (maxSteps := 4000000) only [go_sem, checkPartyF, hb, hp, walkCells]))); refine hK _ ?_; clear hK K) | refine walkL_nil ?_ | refine walkL_ret ?_ | refine walkL_exit ?_ | refine blockA_here ?_ | refine blockA_other rfl ?_ | refine blockA_ret ?_ | refine blockA_normal ?_ | refine thenA_ret ?_ | refine thenA_exit ?_ | refine thenA_normal ?_)
      try simp (maxSteps := 4000000) only [go_sem, checkPartyF, hb, hp, walkCells]
      refine walkL_false rfl ?_
      repeat (first | refine walkL_seq ?_ | refine walkL_skip ?_ | refine walkL_block ?_ | (refine walkL_region fun K hK => ?_; simp (maxSteps := 4000000) only [go_sem]; refine hK _ ?_; clear hK K) | refine walkL_nil ?_ | refine walkL_ret ?_ | refine walkL_exit ?_ | refine blockA_here ?_ | refine blockA_other rfl ?_ | refine blockA_ret ?_ | refine blockA_normal ?_ | refine thenA_ret ?_ | refine thenA_exit ?_ | refine thenA_normal ?_)
      refine walkL_meetS [(28, .d (.bool (badAsk n places minutes)))] [] ?_ ?_
      · refine walkL_region fun K hK => ?_
        simp (maxSteps := 4000000) only [go_sem]
        refine ⟨_, .lent (hf := f121 places 122 [.ptr n.cells 0] _ h84 h1) (hd := rfl) (hr := rfl), ?_⟩
        simp (maxSteps := 4000000) only [go_sem]
        by_cases ho0 : (places.any (fun x => !withinB x 0 (n.places - 1))) = true
        · simp (maxSteps := 4000000) only [go_sem, ho0]
          refine hK _ ?_
          clear hK K
          refine walkL_nil ?_
          refine thenA_normal ?_
          refine ⟨rfl, ?_⟩
          rw [show (badAsk n places minutes) = (true) from by simp [badAsk, ho0]]
          simp (maxSteps := 4000000) only [go_sem]
          refine weak_of [] ?_ ?_ rfl rfl <;> simp [lessT, lessM, lessB, AV.less]
        · simp (maxSteps := 4000000) only [go_sem, ho0]
          refine ⟨_, .lent (hf := f121 minutes 124 [] _ h85 h2) (hd := rfl) (hr := rfl), ?_⟩
          simp (maxSteps := 4000000) only [go_sem, ho0]
          refine hK _ ?_
          clear hK K
          refine walkL_nil ?_
          refine thenA_normal ?_
          refine ⟨rfl, ?_⟩
          rw [show (badAsk n places minutes) = (minutes.any (fun x => !withinB x 0 2880)) from by simp [badAsk, ho0]]
          simp (maxSteps := 4000000) only [go_sem]
          refine weak_of [] ?_ ?_ rfl rfl <;> simp [lessT, lessM, lessB, AV.less]
      simp (maxSteps := 4000000) only [go_sem]
      refine walkL_cond rfl (fun hc => ?_) (fun hc => ?_)
      · repeat (first | refine walkL_seq ?_ | refine walkL_skip ?_ | refine walkL_block ?_ | (refine walkL_region fun K hK => ?_; simp (maxSteps := 4000000) only [go_sem]; refine hK _ ?_; clear hK K) | refine walkL_nil ?_ | refine walkL_ret ?_ | refine walkL_exit ?_ | refine blockA_here ?_ | refine blockA_other rfl ?_ | refine blockA_ret ?_ | refine blockA_normal ?_ | refine thenA_ret ?_ | refine thenA_exit ?_ | refine thenA_normal ?_)
        simp (maxSteps := 4000000) only [go_sem, openF, hb, hp, hc, walkCells]
      · repeat (first | refine walkL_seq ?_ | refine walkL_skip ?_ | refine walkL_block ?_ | (refine walkL_region fun K hK => ?_; simp (maxSteps := 4000000) only [go_sem]; refine hK _ ?_; clear hK K) | refine walkL_nil ?_ | refine walkL_ret ?_ | refine walkL_exit ?_ | refine blockA_here ?_ | refine blockA_other rfl ?_ | refine blockA_ret ?_ | refine blockA_normal ?_ | refine thenA_ret ?_ | refine thenA_exit ?_ | refine thenA_normal ?_)
        simp (maxSteps := 4000000) only [go_sem, openF, hb, hp, hc, walkCells]
end Go.Ab
namespace Go.Ab
open Go.RowKit Go.Proofs
set_option maxHeartbeats 4000000
set_option maxRecDepth 20000
attribute [local irreducible] WalkL Walk
def iterL {α : Type} (f : α → α) : Nat → α → α
  | 0, a => a
  | k + 1, a => f (iterL f k a)
def relaxB (p : Party) (but : Int) (l : List Int) (w : Path × Nat) : Bool := ((w.2 : Int) != but) && (decide (w.1.grade ≤ p.grade) && decide (getI l w.1.frm < 1073741824))
def relaxT (p : Party) (high : Bool) (but : Int) (l : List Int) (w : Path × Nat) : List Int :=
  if relaxB p but l w then l.set w.1.to.toNat (min (getI l w.1.to) (stepF w.1 p (getI l w.1.frm) high)) else l
def passT (n : Net) (p : Party) (high : Bool) (but : Int) (l : List Int) : List Int := n.paths.zipIdx.foldl (relaxT p high but) l
def tableL (n : Net) (p : Party) (frm start : Int) (high : Bool) (but : Int) : List Int := iterL (passT n p high but) n.places.toNat (arrivals0 n frm start)
end Go.Ab
namespace Go.Ab
open Go.RowKit Go.Proofs
set_option maxHeartbeats 4000000
set_option maxRecDepth 20000
attribute [local irreducible] WalkL Walk
def sureF (n : Net) (p : Party) (frm start to but : Int) : Int := getI (tableL n p frm start true but) to
def shown1 (t : Int) : Int := if t ≥ never then -1 else t
def untilL (d : Int) (l : List Int) : List Int := (l.zipIdx.filter fun x => decide (x.1 ≤ d)).map fun x => (x.2 : Int)
end Go.Ab
namespace Go.Ab
open Go.RowKit Go.Proofs
set_option maxHeartbeats 4000000
set_option maxRecDepth 20000
attribute [local irreducible] WalkL Walk
structure Path.Good (n : Net) (x : Path) : Prop where
  frm : 0 ≤ x.frm ∧ x.frm < n.places
  to : 0 ≤ x.to ∧ x.to < n.places
  ne : x.frm ≠ x.to
  grade : 1 ≤ x.grade ∧ x.grade ≤ 6
  time : 1 ≤ x.time.lo ∧ x.time.lo ≤ x.time.hi ∧ x.time.hi ≤ 600
  snow : 0 ≤ x.snow.lo ∧ x.snow.lo ≤ x.snow.hi ∧ x.snow.hi ≤ 30
  len : x.opens.length ≤ 6
  opens : ∀ s ∈ x.opens, 0 ≤ s.lo ∧ s.lo ≤ s.hi ∧ s.hi ≤ 2880
structure Net.Good (n : Net) : Prop where
  places : 1 ≤ n.places ∧ n.places ≤ 12
  paths : n.paths.length ≤ 24
  path : ∀ x ∈ n.paths, x.Good n
theorem wrong_iff {n : Net} {x : Path} : wrongB n x = false ↔ x.Good n := by
  unfold wrongB wrong1
  simp only [Bool.or_eq_false_iff, Bool.not_eq_false', within_iff, ordered_iff, beq_eq_false_iff_ne, decide_eq_false_iff_not, List.any_eq_false, Bool.not_eq_true']
  constructor
  · rintro ⟨⟨h1, h2, h3, h4, h5, h6, h7⟩, h8⟩
    exact ⟨by omega, by omega, h3, h4, h5, h6, by omega, fun s hs => ordered_iff.1 (by simpa using h8 s hs)⟩
  · rintro ⟨h1, h2, h3, h4, h5, h6, h7, h8⟩
    exact ⟨⟨by omega, by omega, h3, h4, h5, h6, by omega⟩, fun s hs => by simpa using ordered_iff.2 (h8 s hs)⟩
theorem good_iff {n : Net} : ¬ badNet n = true ↔ n.Good := by
  have e : ¬ badNet n = true ↔ badNet n = false := by simp
  rw [e]
  unfold badNet
  simp only [Bool.or_eq_false_iff, Bool.not_eq_false', within_iff, decide_eq_false_iff_not, List.any_eq_false]
  constructor
  · rintro ⟨h1, h2, h3⟩
    exact ⟨h1, by omega, fun x hx => wrong_iff.1 (by simpa using h3 x hx)⟩
  · rintro ⟨h1, h2, h3⟩
    exact ⟨h1, by omega, fun x hx => by simpa using wrong_iff.2 (h3 x hx)⟩
theorem Net.Good.ok {n : Net} (h : n.Good) : n.Ok :=
  ⟨by have := h.places; omega, by have := h.paths; omega, fun x hx => (h.path x hx).frm, fun x hx => (h.path x hx).to, fun x hx => by have := (h.path x hx).len; omega⟩
theorem Net.Good.hi {n : Net} (h : n.Good) : ∀ x ∈ n.paths, ∀ s ∈ x.opens, s.hi ≤ 2880 := fun x hx s hs => ((h.path x hx).opens s hs).2.2
structure Party.Good (p : Party) : Prop where
  grade : 1 ≤ p.grade ∧ p.grade ≤ 6
  pace : 50 ≤ p.pace.lo ∧ p.pace.lo ≤ p.pace.hi ∧ p.pace.hi ≤ 300
  load : 0 ≤ p.load ∧ p.load ≤ 40
theorem party_iff {p : Party} : ¬ badParty p = true ↔ p.Good := by
  have e : ¬ badParty p = true ↔ badParty p = false := by simp
  rw [e]
  unfold badParty
  simp only [Bool.or_eq_false_iff, Bool.not_eq_false', within_iff, ordered_iff]
  exact ⟨fun ⟨h1, h2, h3⟩ => ⟨h1, h2, h3⟩, fun ⟨h1, h2, h3⟩ => ⟨h1, h2, h3⟩⟩
structure Opened (n : Net) (p : Party) (places minutes : List Int) : Prop where
  net : n.Good
  party : p.Good
  place : ∀ x ∈ places, 0 ≤ x ∧ x < n.places
  minute : ∀ x ∈ minutes, 0 ≤ x ∧ x ≤ 2880
theorem ask_iff {n : Net} {places minutes : List Int} : ¬ badAsk n places minutes = true ↔ (∀ x ∈ places, 0 ≤ x ∧ x < n.places) ∧ ∀ x ∈ minutes, 0 ≤ x ∧ x ≤ 2880 := by
  have e : ¬ badAsk n places minutes = true ↔ badAsk n places minutes = false := by simp
  rw [e]
  unfold badAsk
  simp only [Bool.or_eq_false_iff, List.any_eq_false]
  constructor
  · rintro ⟨h1, h2⟩
    exact ⟨fun x hx => by have := within_iff.1 (by simpa using h1 x hx); omega, fun x hx => within_iff.1 (by simpa using h2 x hx)⟩
  · rintro ⟨h1, h2⟩
    exact ⟨fun x hx => by simpa using within_iff.2 (by have := h1 x hx; omega), fun x hx => by simpa using within_iff.2 (h2 x hx)⟩
theorem open_iff {n : Net} {p : Party} {places minutes : List Int} : openF n p places minutes = 0 ↔ Opened n p places minutes := by
  unfold openF
  constructor
  · intro h
    split at h
    · cases h
    · rename_i h1
      split at h
      · cases h
      · rename_i h2
        split at h
        · cases h
        · rename_i h3
          exact ⟨good_iff.1 h1, party_iff.1 h2, (ask_iff.1 h3).1, (ask_iff.1 h3).2⟩
  · rintro ⟨h1, h2, h3, h4⟩
    rw [if_neg (good_iff.2 h1), if_neg (party_iff.2 h2), if_neg (ask_iff.2 ⟨h3, h4⟩)]
theorem fixA_len (n : Net) (p : Party) (q : Span → Int) (but : Int) : ∀ (k : Nat) (l : List Int), (fixA n p q but k l).length = l.length
  | 0, _ => rfl
  | k + 1, l => by
    unfold fixA
    split
    · rw [fixA_len n p q but k, passA, foldA_len]
    · rw [passA, foldA_len]
theorem arrivals_len (n : Net) (p : Party) (q : Span → Int) (frm start but : Int) : (arrivalsL n p q frm start but).length = n.places.toNat := by
  rw [arrivalsL, fixA_len]; simp [arrivals0]
def spanHi (s : Span) : Int := s.hi
def spanLo (s : Span) : Int := s.lo
def arriveL (n : Net) (p : Party) (frm start : Int) : List Int × List Int × Int :=
  if openF n p [frm] [start] = 0 then ((arrivalsL n p spanHi frm start (-1)).map told1, (arrivalsL n p spanLo frm start (-1)).map told1, 0) else ([], [], openF n p [frm] [start])
theorem f34 (n : Net) (p : Party) (frm start : Int) (hs : n.Small) : Fn Tryz.prog 34 [.agg n.cells, .agg p.cells, .i frm, .i start]
    (.tup [.sl (intRows (arriveL n p frm start).1), .sl (intRows (arriveL n p frm start).2.1), .i (arriveL n p frm start).2.2]) := by
  have h41 := f77 n p [frm] [start] hs (by simp) (by simp)
  refine fn_walk 36 Tryz.call34 Tryz.func34 rfl (by decide) fun J => ?_
  simp (maxSteps := 4000000) only [go_sem, St.start, Tryz.ntmps34, Tryz.results34, Net.cells, Party.cells]
  repeat (first | refine walkL_seq ?_ | refine walkL_skip ?_ | refine walkL_block ?_ | (refine walkL_region fun K hK => ?_; simp (maxSteps := 4000000) only [go_sem, walkCells]; (repeat (first | (refine ⟨_, .lent (hf := h41) (hd := rfl) (hr := rfl), ?_⟩; simp (maxSteps := 4000000) only [go_sem, walkCells]) | (refine ⟨_, .given (hf := h41) (hd := rfl) (ha := rfl), ?_⟩; simp (maxSteps := 4000000) only [go_sem, walkCells]))); refine hK _ ?_; clear hK K) | refine walkL_nil ?_ | refine walkL_ret ?_ | refine walkL_exit ?_ | refine blockA_here ?_ | refine blockA_other rfl ?_ | refine blockA_ret ?_ | refine blockA_normal ?_ | refine thenA_ret ?_ | refine thenA_exit ?_ | refine thenA_normal ?_)
  refine walkL_cond rfl (fun hc => ?_) (fun hc => ?_)
  · have hc : ¬ openF n p [frm] [start] = 0 := by simpa using hc
    repeat (first | refine walkL_seq ?_ | refine walkL_skip ?_ | refine walkL_block ?_ | (refine walkL_region fun K hK => ?_; simp (maxSteps := 4000000) only [go_sem]; refine hK _ ?_; clear hK K) | refine walkL_nil ?_ | refine walkL_ret ?_ | refine walkL_exit ?_ | refine blockA_here ?_ | refine blockA_other rfl ?_ | refine blockA_ret ?_ | refine blockA_normal ?_ | refine thenA_ret ?_ | refine thenA_exit ?_ | refine thenA_normal ?_)
    simp (maxSteps := 4000000) only [go_sem, arriveL, hc]
    rfl
  · have hc : openF n p [frm] [start] = 0 := by simpa using hc
    have ho := open_iff.1 hc
    have hfr := ho.place frm (by simp)
    have hpl := ho.net.places
    have h42 := f79 n p frm start (-1) 80 spanHi (fun s => f80 s) ho.net.ok hfr
    have h42' := f79 n p frm start (-1) 81 spanLo (fun s => f81 s) ho.net.ok hfr
    have h59 := f78 (arrivalsL n p spanHi frm start (-1)) (by rw [arrivals_len]; omega)
    have h59' := f78 (arrivalsL n p spanLo frm start (-1)) (by rw [arrivals_len]; omega)
    repeat (first | refine walkL_seq ?_ | refine walkL_skip ?_ | refine walkL_block ?_ | (refine walkL_region fun K hK => ?_; simp (maxSteps := 4000000) only [go_sem]; refine hK _ ?_; clear hK K) | refine walkL_nil ?_ | refine walkL_ret ?_ | refine walkL_exit ?_ | refine blockA_here ?_ | refine blockA_other rfl ?_ | refine blockA_ret ?_ | refine blockA_normal ?_ | refine thenA_ret ?_ | refine thenA_exit ?_ | refine thenA_normal ?_)
    refine walkL_drawn (by kernel_rfl) (by kernel_rfl) fun K hK => ?_
    simp (maxSteps := 4000000) only [go_sem]
    refine ⟨_, .fnS (hdst := rfl) (hf := h42) (hd := rfl) (hr := .inr rfl) (hfr := rfl), ?_⟩
    simp (maxSteps := 4000000) only [go_sem]
    refine ⟨_, .inPlace (n := 29) (hf := h59) (hn := rfl) (hb := rfl) (hla := rfl) (ha := argG_all (by repeat (first | exact trivial | refine And.intro ?_ ?_ | exact argG_ren rfl | exact argG_deep rfl rfl))) (hx := by first | decide | simp [AV.refsAll, AV.refs, AV.refs.AV.refss]), ?_⟩
    simp (maxSteps := 4000000) only [go_sem]
    refine ⟨_, .fnS (hdst := rfl) (hf := h42') (hd := rfl) (hr := .inr rfl) (hfr := rfl), ?_⟩
    simp (maxSteps := 4000000) only [go_sem]
    refine ⟨_, .inPlace (n := 34) (hf := h59') (hn := rfl) (hb := rfl) (hla := rfl) (ha := argG_all (by repeat (first | exact trivial | refine And.intro ?_ ?_ | exact argG_ren rfl | exact argG_deep rfl rfl))) (hx := by first | decide | simp [AV.refsAll, AV.refs, AV.refs.AV.refss]), ?_⟩
    simp (maxSteps := 4000000) only [go_sem]
    refine ⟨by kernel_rfl, hK _ ?_⟩
    clear hK K
    repeat (first | refine walkL_seq ?_ | refine walkL_skip ?_ | refine walkL_block ?_ | (refine walkL_region fun K hK => ?_; simp (maxSteps := 4000000) only [go_sem]; refine hK _ ?_; clear hK K) | refine walkL_nil ?_ | refine walkL_ret ?_ | refine walkL_exit ?_ | refine blockA_here ?_ | refine blockA_other rfl ?_ | refine blockA_ret ?_ | refine blockA_normal ?_ | refine thenA_ret ?_ | refine thenA_exit ?_ | refine thenA_normal ?_)
    simp (maxSteps := 4000000) only [go_sem, arriveL, hc]
end Go.Ab
namespace Go.Ab
open Go.RowKit Go.Proofs
set_option maxHeartbeats 4000000
set_option maxRecDepth 20000
attribute [local irreducible] WalkL Walk
def exN : Net := ⟨4, [⟨0, 1, 2, ⟨100, 120⟩, ⟨0, 0⟩, [⟨0, 2880⟩]⟩, ⟨1, 2, 3, ⟨60, 90⟩, ⟨4, 10⟩, [⟨0, 2880⟩]⟩, ⟨2, 3, 2, ⟨60, 60⟩, ⟨0, 0⟩, [⟨400, 700⟩]⟩, ⟨0, 3, 2, ⟨300, 400⟩, ⟨0, 0⟩, [⟨0, 2880⟩]⟩, ⟨3, 0, 2, ⟨200, 240⟩, ⟨0, 0⟩, [⟨0, 2880⟩]⟩]⟩
def exP : Party := ⟨3, 0, ⟨100, 100⟩⟩
theorem f38 : Fn Tryz.prog 38 [] (.tup [.agg exN.cells, .agg exP.cells]) := by
  refine fn_walk 26 Tryz.call38 Tryz.func38 rfl (by decide) fun J => ?_
  simp (maxSteps := 4000000) only [go_sem, St.start, Tryz.ntmps38, Tryz.results38]
  repeat (first | refine walkL_seq ?_ | refine walkL_skip ?_ | refine walkL_block ?_ | (refine walkL_region fun K hK => ?_; simp (maxSteps := 4000000) only [go_sem]; (repeat (first | (refine ⟨_, .lent (hf := f84 _ _) (hd := rfl) (hr := rfl), ?_⟩; simp (maxSteps := 4000000) only [go_sem]) | (refine ⟨_, .given (hf := f84 _ _) (hd := rfl) (ha := rfl), ?_⟩; simp (maxSteps := 4000000) only [go_sem]))); refine hK _ ?_; clear hK K) | refine walkL_nil ?_ | refine walkL_ret ?_ | refine walkL_exit ?_ | refine blockA_here ?_ | refine blockA_other rfl ?_ | refine blockA_ret ?_ | refine blockA_normal ?_ | refine thenA_ret ?_ | refine thenA_exit ?_ | refine thenA_normal ?_)
  simp (maxSteps := 4000000) only [go_sem, exN, exP, Net.cells, Party.cells, Path.row, Span.row]
theorem ex_small : exN.Small := ⟨by decide, by intro x hx; revert hx x; decide⟩
end Go.Ab
/- Plain laws of layer 1: paths, arrivals, deadlines. -/
namespace Go.Ab
open Go.RowKit Go.Proofs
set_option maxHeartbeats 1000000
theorem enter_le_iff (t b : Int) : ∀ (l : List Span) (f : Int), l.foldl (fun f s => if t ≤ s.hi then min f (max t s.lo) else f) f ≤ b ↔ f ≤ b ∨ ∃ s ∈ l, t ≤ s.hi ∧ max t s.lo ≤ b
  | [], f => by simp
  | s :: l, f => by
    rw [List.foldl_cons, enter_le_iff t b l]
    simp only [List.mem_cons, exists_eq_or_imp]
    split
    · rename_i h
      constructor
      · rintro (h1 | h1)
        · by_cases h2 : f ≤ b
          · exact .inl h2
          · exact .inr (.inl ⟨h, by omega⟩)
        · exact .inr (.inr h1)
      · rintro (h1 | h1 | h1)
        · exact .inl (by omega)
        · exact .inl (by omega)
        · exact .inr h1
    · rename_i h
      constructor
      · rintro (h1 | h1)
        · exact .inl h1
        · exact .inr (.inr h1)
      · rintro (h1 | h1 | h1)
        · exact .inl h1
        · omega
        · exact .inr h1
theorem enter_never (opens : List Span) (t : Int) : enterF opens t ≤ never := (enter_le_iff t never opens _).2 (.inl (by decide))
theorem enter_ge {opens : List Span} {t : Int} (h : enterF opens t < never) : t ≤ enterF opens t := by
  have h1 := (enter_le_iff t (enterF opens t) opens 1073741824).1 (Int.le_refl _)
  rcases h1 with h1 | ⟨s, _, _, h1⟩
  · have : (1073741824 : Int) = never := rfl
    omega
  · omega
theorem enter_nonneg {opens : List Span} {t : Int} (h : 0 ≤ t) : 0 ≤ enterF opens t := by
  by_cases h1 : enterF opens t < never
  · have := enter_ge h1; omega
  · have : (1073741824 : Int) = never := rfl
    omega
def okTime (d : Int) : Prop := 1 ≤ d ∧ d ≤ 6000
theorem arrive_eq {opens : List Span} {t d : Int} (ht : 0 ≤ t) (hd : okTime d) : arriveF opens t d = if enterF opens t + d > 2880 then never else enterF opens t + d := by
  have h1 := enter_nonneg (opens := opens) ht
  have h2 := enter_never opens t
  have hv : never = 1073741824 := rfl
  have hw : wr (enterF opens t + d) = enterF opens t + d := wr_small (by unfold okTime at hd; omega)
  unfold arriveF
  rw [hw]
  rfl
theorem arrive_le_iff {opens : List Span} {t d b : Int} (ht : 0 ≤ t) (hd : okTime d) (hb : b ≤ 2880) : arriveF opens t d ≤ b ↔ ∃ s ∈ opens, t ≤ s.hi ∧ max t s.lo ≤ b - d := by
  have hv : never = 1073741824 := rfl
  unfold okTime at hd
  rw [arrive_eq ht hd]
  have h := enter_le_iff t (b - d) opens 1073741824
  change enterF opens t ≤ b - d ↔ _ at h
  constructor
  · intro h1
    split at h1
    · omega
    · rcases h.1 (by omega) with h2 | h2
      · omega
      · exact h2
  · intro h1
    have := h.2 (.inr h1)
    rw [if_neg (by omega)]
    omega
theorem arrive_range {opens : List Span} {t d : Int} (ht : 0 ≤ t) (hd : okTime d) : arriveF opens t d = never ∨ (t + d ≤ arriveF opens t d ∧ arriveF opens t d ≤ 2880) := by
  have hv : never = 1073741824 := rfl
  unfold okTime at hd
  rw [arrive_eq ht hd]
  split
  · exact .inl rfl
  · have := enter_ge (opens := opens) (t := t) (by omega)
    exact .inr (by omega)
theorem arrive_mono {opens : List Span} {t t' d : Int} (ht : 0 ≤ t) (hle : t ≤ t') (hd : okTime d) : arriveF opens t d ≤ arriveF opens t' d := by
  have hv : never = 1073741824 := rfl
  rcases arrive_range (opens := opens) (t := t') (by omega) hd with h | ⟨h1, h2⟩
  · rw [h]
    rcases arrive_range (opens := opens) ht hd with h' | h'
    · omega
    · omega
  · obtain ⟨s, q1, q2, q3⟩ := (arrive_le_iff (b := arriveF opens t' d) (by omega) hd h2).1 (Int.le_refl _)
    exact (arrive_le_iff ht hd h2).2 ⟨s, q1, by omega, by omega⟩
theorem time_eq {t pace snow load : Int} (ht : 1 ≤ t ∧ t ≤ 600) (hp : 50 ≤ pace ∧ pace ≤ 300) (hs : 0 ≤ snow ∧ snow ≤ 30) (hl : 0 ≤ load ∧ load ≤ 40) :
    timeW t pace snow load = (t * pace * (100 + 5 * snow + load) + 9999) / 10000 ∧ okTime (timeW t pace snow load) := by
  have h1 : 50 ≤ t * pace := by have := Int.mul_le_mul ht.1 hp.1 (by omega) (by omega); omega
  have h2 : t * pace ≤ 180000 := by have := Int.mul_le_mul ht.2 hp.2 (by omega) (by omega); omega
  have h3 : 100 ≤ 100 + 5 * snow + load := by omega
  have h4 : 100 + 5 * snow + load ≤ 290 := by omega
  have h5 : 5000 ≤ t * pace * (100 + 5 * snow + load) := by have := Int.mul_le_mul h1 h3 (by omega) (by omega); omega
  have h6 : t * pace * (100 + 5 * snow + load) ≤ 52200000 := by have := Int.mul_le_mul h2 h4 (by omega) (by omega); omega
  have e1 : wr (t * pace) = t * pace := wr_small (by omega)
  have e2 : wr (5 * snow) = 5 * snow := wr_small (by omega)
  have e3 : wr (100 + 5 * snow) = 100 + 5 * snow := wr_small (by omega)
  have e4 : wr (100 + 5 * snow + load) = 100 + 5 * snow + load := wr_small (by omega)
  have e5 : wr (t * pace * (100 + 5 * snow + load)) = t * pace * (100 + 5 * snow + load) := wr_small (by omega)
  have e6 : wr (t * pace * (100 + 5 * snow + load) + 9999) = t * pace * (100 + 5 * snow + load) + 9999 := wr_small (by omega)
  have e7 : (t * pace * (100 + 5 * snow + load) + 9999).tdiv 10000 = (t * pace * (100 + 5 * snow + load) + 9999) / 10000 := Int.tdiv_eq_ediv_of_nonneg (by omega)
  have h : timeW t pace snow load = (t * pace * (100 + 5 * snow + load) + 9999) / 10000 := by
    unfold timeW
    rw [e1, e2, e3, e4, e5, e6, e7]
    exact wr_small (by omega)
  refine ⟨h, ?_⟩
  rw [h]
  unfold okTime
  omega
theorem span_ok {n : Net} {p : Party} {x : Path} (hx : x.Good n) (hp : p.Good) : okTime (spanW x p).hi ∧ okTime (spanW x p).lo ∧ (spanW x p).lo ≤ (spanW x p).hi := by
  obtain ⟨t1, t2, t3⟩ := hx.time
  obtain ⟨s1, s2, s3⟩ := hx.snow
  obtain ⟨p1, p2, p3⟩ := hp.pace
  obtain ⟨a1, a2⟩ := time_eq (t := x.time.hi) (pace := p.pace.hi) (snow := x.snow.hi) (load := p.load) (by omega) (by omega) (by omega) hp.load
  obtain ⟨b1, b2⟩ := time_eq (t := x.time.lo) (pace := p.pace.lo) (snow := x.snow.lo) (load := p.load) (by omega) (by omega) (by omega) hp.load
  have hl := hp.load
  refine ⟨a2, b2, ?_⟩
  show timeW _ _ _ _ ≤ timeW _ _ _ _
  rw [a1, b1]
  have h1 : x.time.lo * p.pace.lo ≤ x.time.hi * p.pace.hi := Int.mul_le_mul t2 p2 (by omega) (by omega)
  have h2 : x.time.lo * p.pace.lo * (100 + 5 * x.snow.lo + p.load) ≤ x.time.hi * p.pace.hi * (100 + 5 * x.snow.hi + p.load) := by
    refine Int.mul_le_mul h1 (by omega) (by omega) ?_
    exact Int.mul_nonneg (by omega) (by omega)
  omega
theorem fold_same {α W : Type} (r : α × Bool → W → α × Bool) (h1 : ∀ a w, r a w = a ∨ (r a w).2 = true) (h2 : ∀ a w, a.2 = true → (r a w).2 = true) :
    ∀ (ws : List W) (a : α × Bool), (ws.foldl r a).2 = false → ws.foldl r a = a ∧ ∀ w ∈ ws, r a w = a := by
  have keep : ∀ (ws : List W) (a : α × Bool), a.2 = true → (ws.foldl r a).2 = true := by
    intro ws
    induction ws with
    | nil => exact fun _ h => h
    | cons w ws ih => exact fun a h => by rw [List.foldl_cons]; exact ih _ (h2 a w h)
  intro ws
  induction ws with
  | nil => exact fun a _ => ⟨rfl, by simp⟩
  | cons w ws ih =>
    intro a h
    rw [List.foldl_cons] at h ⊢
    rcases h1 a w with e | e
    · rw [e] at h ⊢
      obtain ⟨q1, q2⟩ := ih a h
      exact ⟨q1, by intro w' hw'; rcases List.mem_cons.1 hw' with rfl | hw'; exact e; exact q2 w' hw'⟩
    · rw [keep ws _ e] at h; cases h
theorem getI_setT (l : List Int) (k y v : Int) (hk : 0 ≤ k) (hkl : k.toNat < l.length) (hy : 0 ≤ y) : getI (l.set k.toNat v) y = if y = k then v else getI l y := by
  unfold getI
  rw [List.getD_eq_getElem?_getD, List.getD_eq_getElem?_getD, List.getElem?_set]
  by_cases h : y = k
  · subst h; simp [hkl]
  · rw [if_neg (by omega), if_neg h]
inductive Reach (ws : List (Nat × Path)) (dur : Path → Int) (x s : Int) : Int → Int → Prop where
  | refl : Reach ws dur x s x s
  | step {y t : Int} (w : Nat × Path) : Reach ws dur x s y t → w ∈ ws → w.2.frm = y → arriveF w.2.opens t (dur w.2) ≤ 2880 → Reach ws dur x s w.2.to (arriveF w.2.opens t (dur w.2))
def OkWs (n : Net) (dur : Path → Int) (ws : List (Nat × Path)) : Prop := ∀ w ∈ ws, (0 ≤ w.2.frm ∧ w.2.frm < n.places) ∧ (0 ≤ w.2.to ∧ w.2.to < n.places) ∧ okTime (dur w.2)
theorem ways_ok {n : Net} {p : Party} (hn : n.Good) (hp : p.Good) (but : Int) : OkWs n (fun x => (spanW x p).hi) (waysL n p but) ∧ OkWs n (fun x => (spanW x p).lo) (waysL n p but) := by
  constructor <;>
  · intro w hw
    have hg := hn.path w.2 (List.mem_of_getElem? (waysL_get hw))
    have := span_ok hg hp
    exact ⟨hg.frm, hg.to, by first | exact this.1 | exact this.2.1⟩
theorem Reach.range {n : Net} {ws : List (Nat × Path)} {dur : Path → Int} (hw : OkWs n dur ws) {x s y t : Int} (hs : 0 ≤ s ∧ s ≤ 2880) (hx : 0 ≤ x ∧ x < n.places) (h : Reach ws dur x s y t) :
    s ≤ t ∧ t ≤ 2880 ∧ 0 ≤ y ∧ y < n.places := by
  induction h with
  | refl => omega
  | @step y t w _ hm hf hle ih =>
    obtain ⟨h1, h2, h3⟩ := hw w hm
    have hv : never = 1073741824 := rfl
    rcases arrive_range (opens := w.2.opens) (t := t) (d := dur w.2) (by omega) h3 with h | h
    · omega
    · unfold okTime at h3; omega
theorem Reach.mono {n : Net} {ws : List (Nat × Path)} {dur : Path → Int} (hw : OkWs n dur ws) {x s s' y t : Int} (hs : 0 ≤ s' ∧ s' ≤ s) (h2 : s ≤ 2880) (hx : 0 ≤ x ∧ x < n.places) (h : Reach ws dur x s y t) : ∃ t', t' ≤ t ∧ Reach ws dur x s' y t' := by
  induction h with
  | refl => exact ⟨s', hs.2, .refl⟩
  | @step y t w hr hm hf hle ih =>
    obtain ⟨t', ht', hr'⟩ := ih
    have hrg := hr'.range hw (by omega) hx
    have := arrive_mono (opens := w.2.opens) (t := t') (t' := t) (d := dur w.2) (by omega) ht' (hw w hm).2.2
    exact ⟨_, this, .step w hr' hm hf (by omega)⟩
end Go.Ab
/- Plain laws of layer 1: what the passes come to. -/
namespace Go.Ab
open Go.RowKit Go.Proofs
set_option maxHeartbeats 1000000
theorem Reach.trans {ws : List (Nat × Path)} {dur : Path → Int} {x s y t z u : Int} (h : Reach ws dur x s y t) (h' : Reach ws dur y t z u) : Reach ws dur x s z u := by
  induction h' with
  | refl => exact h
  | step w _ hm hf hle ih => exact .step w ih hm hf hle
theorem Reach.one {ws : List (Nat × Path)} {dur : Path → Int} {t : Int} {w : Nat × Path} (hm : w ∈ ws) (hle : arriveF w.2.opens t (dur w.2) ≤ 2880) : Reach ws dur w.2.frm t w.2.to (arriveF w.2.opens t (dur w.2)) :=
  .step w .refl hm rfl hle
theorem relaxA_or (p : Party) (q : Span → Int) (a : List Int × Bool) (w : Nat × Path) : relaxA p q a w = a ∨ (relaxA p q a w).2 = true := by
  unfold relaxA
  split
  · exact .inl rfl
  · dsimp only; split
    · exact .inr rfl
    · exact .inl rfl
theorem relaxA_flag (p : Party) (q : Span → Int) (a : List Int × Bool) (w : Nat × Path) (h : a.2 = true) : (relaxA p q a w).2 = true := by
  rcases relaxA_or p q a w with e | e
  · rw [e]; exact h
  · exact e
section
variable {n : Net} {p : Party} {q : Span → Int} {but frm start : Int}
def ArrInv (n : Net) (ws : List (Nat × Path)) (dur : Path → Int) (frm start : Int) (l : List Int) : Prop :=
  l.length = n.places.toNat ∧ getI l frm ≤ start ∧ ∀ y, 0 ≤ y → y < n.places → getI l y = never ∨ (0 ≤ getI l y ∧ getI l y ≤ 2880 ∧ Reach ws dur frm start y (getI l y))
theorem relaxA_inv {ws : List (Nat × Path)} (hw : OkWs n (fun x => q (spanW x p)) ws) (hf : 0 ≤ frm ∧ frm < n.places) (a : List Int × Bool) (w : Nat × Path) (hm : w ∈ ws) (h : ArrInv n ws (fun x => q (spanW x p)) frm start a.1) :
    ArrInv n ws (fun x => q (spanW x p)) frm start (relaxA p q a w).1 := by
  obtain ⟨w1, w2, w3⟩ := hw w hm
  have w3 : okTime (q (spanW w.2 p)) := w3
  obtain ⟨h1, h2, h3⟩ := h
  have hv : never = 1073741824 := rfl
  unfold relaxA
  split
  · exact ⟨h1, h2, h3⟩
  · rename_i hn
    dsimp only
    split
    · rename_i hlt
      have hsz : w.2.to.toNat < a.1.length := by omega
      rcases h3 w.2.frm w1.1 w1.2 with h4 | ⟨h4, h5, h6⟩
      · exact absurd h4 hn
      have hle : arriveF w.2.opens (getI a.1 w.2.frm) (q (spanW w.2 p)) ≤ 2880 := by
        rcases arrive_range (opens := w.2.opens) h4 w3 with h | h
        · rcases h3 w.2.to w2.1 w2.2 with h7 | h7 <;> omega
        · omega
      have hge : 0 ≤ arriveF w.2.opens (getI a.1 w.2.frm) (q (spanW w.2 p)) := by
        rcases arrive_range (opens := w.2.opens) h4 w3 with h | h
        · omega
        · unfold okTime at w3; omega
      refine ⟨by simpa using h1, ?_, fun y hy hyn => ?_⟩
      · rw [getI_setT _ _ _ _ w2.1 hsz hf.1]
        split
        · rename_i e; subst e; omega
        · exact h2
      · rw [getI_setT _ _ _ _ w2.1 hsz hy]
        split
        · rename_i e; subst e
          exact .inr ⟨hge, hle, .step w h6 hm rfl hle⟩
        · exact h3 y hy hyn
    · exact ⟨h1, h2, h3⟩
theorem foldA_inv {ws : List (Nat × Path)} (hw : OkWs n (fun x => q (spanW x p)) ws) (hf : 0 ≤ frm ∧ frm < n.places) : ∀ (vs : List (Nat × Path)) (a : List Int × Bool), (∀ w ∈ vs, w ∈ ws) → ArrInv n ws (fun x => q (spanW x p)) frm start a.1 →
    ArrInv n ws (fun x => q (spanW x p)) frm start (vs.foldl (relaxA p q) a).1
  | [], _, _, h => h
  | w :: vs, a, hs, h => by
    rw [List.foldl_cons]
    exact foldA_inv hw hf vs _ (fun w' h' => hs w' (by simp [h'])) (relaxA_inv hw hf a w (hs w (by simp)) h)
theorem fixA_spec (hw : OkWs n (fun x => q (spanW x p)) (waysL n p but)) (hf : 0 ≤ frm ∧ frm < n.places) : ∀ (k : Nat) (l : List Int), fallM l < k → ArrInv n (waysL n p but) (fun x => q (spanW x p)) frm start l →
    ArrInv n (waysL n p but) (fun x => q (spanW x p)) frm start (fixA n p q but k l) ∧ ∀ w ∈ waysL n p but, relaxA p q (fixA n p q but k l, false) w = (fixA n p q but k l, false)
  | 0, l, h, _ => by omega
  | k + 1, l, h, hi => by
    have hM := foldA_M p q (waysL n p but) (l, false) (fun w hm => by have := (hw w hm).2.1; have := hi.1; show w.2.to.toNat < l.length; omega)
    unfold fixA
    split
    · rename_i hc
      have hlt := hM.2 rfl hc
      refine fixA_spec hw hf k _ (by show fallM (passA n p q but l).1 < k; unfold passA; dsimp only at hlt; omega) ?_
      exact foldA_inv hw hf _ (l, false) (fun _ h => h) hi
    · rename_i hc
      obtain ⟨e1, e2⟩ := fold_same (relaxA p q) (relaxA_or p q) (relaxA_flag p q) (waysL n p but) (l, false) (by simpa [passA] using hc)
      have e3 : (passA n p q but l).1 = l := by unfold passA; rw [e1]
      rw [e3]
      exact ⟨hi, e2⟩
theorem arr_spec (hw : OkWs n (fun x => q (spanW x p)) (waysL n p but)) (hf : 0 ≤ frm ∧ frm < n.places) (hs : 0 ≤ start ∧ start ≤ 2880) :
    (∀ y, 0 ≤ y → y < n.places → getI (arrivalsL n p q frm start but) y = never ∨ (0 ≤ getI (arrivalsL n p q frm start but) y ∧ getI (arrivalsL n p q frm start but) y ≤ 2880 ∧ Reach (waysL n p but) (fun x => q (spanW x p)) frm start y (getI (arrivalsL n p q frm start but) y))) ∧
    ∀ y t, Reach (waysL n p but) (fun x => q (spanW x p)) frm start y t → getI (arrivalsL n p q frm start but) y ≤ t := by
  have hv : never = 1073741824 := rfl
  have h0 : ArrInv n (waysL n p but) (fun x => q (spanW x p)) frm start (arrivals0 n frm start) := by
    have hl : frm.toNat < (List.replicate n.places.toNat never).length := by simp; omega
    refine ⟨by simp [arrivals0], ?_, fun y hy hyn => ?_⟩
    · unfold arrivals0; rw [getI_setT _ _ _ _ hf.1 hl hf.1, if_pos rfl]; exact Int.le_refl _
    · unfold arrivals0
      rw [getI_setT _ _ _ _ hf.1 hl hy]
      split
      · rename_i e; subst e; exact .inr ⟨hs.1, hs.2, .refl⟩
      · left; unfold getI; rw [List.getD_eq_getElem?_getD, List.getElem?_replicate, if_pos (by omega)]; rfl
  obtain ⟨⟨h1, h2, h3⟩, h4⟩ := fixA_spec hw hf (fallM (arrivals0 n frm start) + 1) (arrivals0 n frm start) (Nat.lt_succ_self _) h0
  change ((arrivalsL n p q frm start but).length = _) at h1
  refine ⟨h3, fun y t hr => ?_⟩
  have key : ∀ y t, Reach (waysL n p but) (fun x => q (spanW x p)) frm start y t → getI (arrivalsL n p q frm start but) y ≤ t ∧ t ≤ 2880 ∧ 0 ≤ t := by
    intro y t hr
    induction hr with
    | refl => exact ⟨h2, hs.2, hs.1⟩
    | @step y t w hr hm hfe hle ih =>
      obtain ⟨w1, w2, w3⟩ := hw w hm
      have w3 : okTime (q (spanW w.2 p)) := w3
      obtain ⟨i1, i2, i3⟩ := ih
      have hge : 0 ≤ arriveF w.2.opens t (q (spanW w.2 p)) := by
        rcases arrive_range (opens := w.2.opens) i3 w3 with h | h
        · omega
        · unfold okTime at w3; omega
      refine ⟨?_, hle, hge⟩
      have h5 := h4 w hm
      change relaxA p q (arrivalsL n p q frm start but, false) w = (arrivalsL n p q frm start but, false) at h5
      unfold relaxA at h5
      rw [hfe] at h5
      split at h5
      · rename_i h6; dsimp only at h6; omega
      · dsimp only at h5
        split at h5
        · exact absurd (congrArg Prod.snd h5) (by simp)
        · rename_i h6
          have h7 : 0 ≤ getI (arrivalsL n p q frm start but) y := by
            rcases h3 y (by omega) (by omega) with h | h
            · have h8 : getI (arrivalsL n p q frm start but) y = never := h
              omega
            · exact h.1
          have h8 := arrive_mono (opens := w.2.opens) h7 i1 w3
          show getI (arrivalsL n p q frm start but) w.2.to ≤ arriveF w.2.opens t (q (spanW w.2 p))
          omega
  exact (key y t hr).1
end
section
variable {n : Net} {p : Party} {to b : Int}
abbrev durHi (p : Party) : Path → Int := fun x => (spanW x p).hi
abbrev durLo (p : Party) : Path → Int := fun x => (spanW x p).lo
def DeadInv (n : Net) (p : Party) (to b : Int) (l : List Int) : Prop :=
  l.length = n.places.toNat ∧ b ≤ getI l to ∧ ∀ x, 0 ≤ x → x < n.places → -1 ≤ getI l x ∧ getI l x ≤ 2880 ∧ (0 ≤ getI l x → ∃ t, t ≤ b ∧ Reach (waysL n p (-1)) (durHi p) x (getI l x) to t)
end
end Go.Ab
namespace Go.Ab
open Go.RowKit Go.Proofs
set_option maxHeartbeats 4000000
set_option maxRecDepth 20000
attribute [local irreducible] WalkL Walk
def farB (n : Net) : Bool := decide ((n.paths.length : Int) > 26) || (n.paths.any (fun x => decide ((x.opens.length : Int) > 8)) || (!badNet n && (decide (n.places > 6) || decide ((n.paths.length : Int) > 10))))
theorem f36 (n : Net) (hs : n.Small) : Fn Tryz.prog 36 [.agg n.cells] (.bool (farB n)) := by
  have h27 := f42 n hs
  have hb0 := hs.paths
  refine fn_walk 37 Tryz.call36 Tryz.func36 rfl (by decide) fun J => ?_
  simp (maxSteps := 4000000) only [go_sem, St.start, Tryz.ntmps36, Tryz.results36, Net.cells]
  repeat (first | refine walkL_seq ?_ | refine walkL_skip ?_ | refine walkL_block ?_ | (refine walkL_region fun K hK => ?_; simp (maxSteps := 4000000) only [go_sem]; refine hK _ ?_; clear hK K) | refine walkL_nil ?_ | refine walkL_ret ?_ | refine walkL_exit ?_ | refine blockA_here ?_ | refine blockA_other rfl ?_ | refine blockA_ret ?_ | refine blockA_normal ?_ | refine thenA_ret ?_ | refine thenA_exit ?_ | refine thenA_normal ?_)
  refine walkL_cond rfl (fun hc => ?_) (fun hc => ?_)
  · repeat (first | refine walkL_seq ?_ | refine walkL_skip ?_ | refine walkL_block ?_ | (refine walkL_region fun K hK => ?_; simp (maxSteps := 4000000) only [go_sem]; refine hK _ ?_; clear hK K) | refine walkL_nil ?_ | refine walkL_ret ?_ | refine walkL_exit ?_ | refine blockA_here ?_ | refine blockA_other rfl ?_ | refine blockA_ret ?_ | refine blockA_normal ?_ | refine thenA_ret ?_ | refine thenA_exit ?_ | refine thenA_normal ?_)
    simp (maxSteps := 4000000) only [go_sem, farB, hc]
  · repeat (first | refine walkL_seq ?_ | refine walkL_skip ?_ | refine walkL_block ?_ | (refine walkL_region fun K hK => ?_; simp (maxSteps := 4000000) only [go_sem]; refine hK _ ?_; clear hK K) | refine walkL_nil ?_ | refine walkL_ret ?_ | refine walkL_exit ?_ | refine blockA_here ?_ | refine blockA_other rfl ?_ | refine blockA_ret ?_ | refine blockA_normal ?_ | refine thenA_ret ?_ | refine thenA_exit ?_ | refine thenA_normal ?_)
    refine walkL_loopS (fun (i : Nat) => [(3, .d (.i i))]) (fun _ => []) (fun i => i ≤ n.paths.length ∧ (n.paths.take i).any (fun x => decide ((x.opens.length : Int) > 8)) = false) (fun i => n.paths.length - i) 0 ?_ ⟨Nat.zero_le _, rfl⟩ ?_
    · simp (maxSteps := 4000000) only [go_sem]
      refine weak_of [] ?_ ?_ rfl rfl <;> simp [lessT, lessM, lessB, AV.less]
    · intro i ⟨hi, hall⟩
      simp (maxSteps := 4000000) only [go_sem]
      repeat (first | refine walkL_seq ?_ | refine walkL_skip ?_ | refine walkL_block ?_ | (refine walkL_region fun K hK => ?_; simp (maxSteps := 4000000) only [go_sem]; refine hK _ ?_; clear hK K) | refine walkL_nil ?_ | refine walkL_ret ?_ | refine walkL_exit ?_ | refine blockA_here ?_ | refine blockA_other rfl ?_ | refine blockA_ret ?_ | refine blockA_normal ?_ | refine thenA_ret ?_ | refine thenA_exit ?_ | refine thenA_normal ?_)
      refine walkL_cond rfl (fun hb => ?_) (fun hb => ?_)
      · have hlt : i < n.paths.length := by simpa using hb
        have hw : IntKind.i64.wrap ((i : Int) + 1) = ((i + 1 : Nat) : Int) := by rw [wr_small (by omega)]; simp
        obtain ⟨x, hx⟩ : ∃ x, n.paths[i]? = some x := ⟨_, List.getElem?_eq_getElem hlt⟩
        repeat (first | refine walkL_seq ?_ | refine walkL_skip ?_ | refine walkL_block ?_ | (refine walkL_region fun K hK => ?_; simp (maxSteps := 4000000) only [go_sem, hx, List.getElem?_map, Path.row]; refine hK _ ?_; clear hK K) | refine walkL_nil ?_ | refine walkL_ret ?_ | refine walkL_exit ?_ | refine blockA_here ?_ | refine blockA_other rfl ?_ | refine blockA_ret ?_ | refine blockA_normal ?_ | refine thenA_ret ?_ | refine thenA_exit ?_ | refine thenA_normal ?_)
        refine walkL_cond rfl (fun hd => ?_) (fun hd => ?_)
        · repeat (first | refine walkL_seq ?_ | refine walkL_skip ?_ | refine walkL_block ?_ | (refine walkL_region fun K hK => ?_; simp (maxSteps := 4000000) only [go_sem]; refine hK _ ?_; clear hK K) | refine walkL_nil ?_ | refine walkL_ret ?_ | refine walkL_exit ?_ | refine blockA_here ?_ | refine blockA_other rfl ?_ | refine blockA_ret ?_ | refine blockA_normal ?_ | refine thenA_ret ?_ | refine thenA_exit ?_ | refine thenA_normal ?_)
          have ha := any_of_get (q := fun x : Path => decide ((x.opens.length : Int) > 8)) hx hd
          simp (maxSteps := 4000000) only [go_sem, farB, hc, ha]
        · repeat (first | refine walkL_seq ?_ | refine walkL_skip ?_ | refine walkL_block ?_ | (refine walkL_region fun K hK => ?_; simp (maxSteps := 4000000) only [go_sem, hw]; refine hK _ ?_; clear hK K) | refine walkL_nil ?_ | refine walkL_ret ?_ | refine walkL_exit ?_ | refine blockA_here ?_ | refine blockA_other rfl ?_ | refine blockA_ret ?_ | refine blockA_normal ?_ | refine thenA_ret ?_ | refine thenA_exit ?_ | refine thenA_normal ?_)
          refine ⟨rfl, i + 1, ?_, ⟨hlt, any_take_succ hx hall hd⟩, by omega⟩
          refine weak_of [] ?_ ?_ rfl rfl <;> simp [lessT, lessM, lessB, AV.less]
      · have he : i = n.paths.length := by (have : ¬ i < n.paths.length := by simpa using hb); omega
        subst he
        rw [List.take_length] at hall
        have hf : farB n = (!badNet n && (decide (n.places > 6) || decide ((n.paths.length : Int) > 10))) := by unfold farB; rw [hc, hall]; rfl
        rw [hf]
        by_cases hbad : badNet n = true
        · repeat (first | refine walkL_seq ?_ | refine walkL_skip ?_ | refine walkL_block ?_ | (refine walkL_region fun K hK => ?_; simp (maxSteps := 4000000) only [go_sem, checkF, hbad]; (repeat (first | (refine ⟨_, .lent (hf := h27) (hd := rfl) (hr := rfl), ?_⟩; simp (maxSteps := 4000000) only [go_sem, checkF, hbad]) | (refine ⟨_, .given (hf := h27) (hd := rfl) (ha := rfl), ?_⟩; simp (maxSteps := 4000000) only [go_sem, checkF, hbad]))); refine hK _ ?_; clear hK K) | refine walkL_nil ?_ | refine walkL_ret ?_ | refine walkL_exit ?_ | refine blockA_here ?_ | refine blockA_other rfl ?_ | refine blockA_ret ?_ | refine blockA_normal ?_ | refine thenA_ret ?_ | refine thenA_exit ?_ | refine thenA_normal ?_)
          try simp (maxSteps := 4000000) only [go_sem, hbad]
        · by_cases hp : n.places > 6
          · repeat (first | refine walkL_seq ?_ | refine walkL_skip ?_ | refine walkL_block ?_ | (refine walkL_region fun K hK => ?_; simp (maxSteps := 4000000) only [go_sem, checkF, hbad, hp]; (repeat (first | (refine ⟨_, .lent (hf := h27) (hd := rfl) (hr := rfl), ?_⟩; simp (maxSteps := 4000000) only [go_sem, checkF, hbad, hp]) | (refine ⟨_, .given (hf := h27) (hd := rfl) (ha := rfl), ?_⟩; simp (maxSteps := 4000000) only [go_sem, checkF, hbad, hp]))); refine hK _ ?_; clear hK K) | refine walkL_nil ?_ | refine walkL_ret ?_ | refine walkL_exit ?_ | refine blockA_here ?_ | refine blockA_other rfl ?_ | refine blockA_ret ?_ | refine blockA_normal ?_ | refine thenA_ret ?_ | refine thenA_exit ?_ | refine thenA_normal ?_)
            simp (maxSteps := 4000000) only [go_sem, hbad, hp]
          · repeat (first | refine walkL_seq ?_ | refine walkL_skip ?_ | refine walkL_block ?_ | (refine walkL_region fun K hK => ?_; simp (maxSteps := 4000000) only [go_sem, checkF, hbad, hp]; (repeat (first | (refine ⟨_, .lent (hf := h27) (hd := rfl) (hr := rfl), ?_⟩; simp (maxSteps := 4000000) only [go_sem, checkF, hbad, hp]) | (refine ⟨_, .given (hf := h27) (hd := rfl) (ha := rfl), ?_⟩; simp (maxSteps := 4000000) only [go_sem, checkF, hbad, hp]))); refine hK _ ?_; clear hK K) | refine walkL_nil ?_ | refine walkL_ret ?_ | refine walkL_exit ?_ | refine blockA_here ?_ | refine blockA_other rfl ?_ | refine blockA_ret ?_ | refine blockA_normal ?_ | refine thenA_ret ?_ | refine thenA_exit ?_ | refine thenA_normal ?_)
            simp (maxSteps := 4000000) only [go_sem, hbad, hp]
structure Trip where
  frm : Int
  to : Int
  start : Int
  deadline : Int
  route : List Int
  path : Int
def Trip.row (x : Trip) : List DV := [.i x.frm, .i x.to, .i x.start, .i x.deadline, .sl (intRows x.route), .i x.path]
def fitsB (n : Net) (p : Party) (x : Trip) : Bool :=
  !farB n && (checkPartyF n p == 0 && (withinB x.frm 0 (n.places - 1) && (withinB x.to 0 (n.places - 1) && (withinB x.start 0 2880 && withinB x.deadline 0 2880))))
theorem checkParty_iff {n : Net} {p : Party} : checkPartyF n p = 0 ↔ n.Good ∧ p.Good := by
  unfold checkPartyF
  constructor
  · intro h
    split at h
    · cases h
    · rename_i h1
      split at h
      · cases h
      · rename_i h2; exact ⟨good_iff.1 h1, party_iff.1 h2⟩
  · rintro ⟨h1, h2⟩
    rw [if_neg (good_iff.2 h1), if_neg (party_iff.2 h2)]
end Go.Ab
namespace Go.Ab
open Go.RowKit Go.Proofs
set_option maxHeartbeats 8000000
set_option maxRecDepth 20000
attribute [local irreducible] WalkL Walk
structure Rule where
  path : Int
  after : Int
  lim : Limits
def Rule.row (r : Rule) : List DV := [.i r.path, .i r.after, .i r.lim.wind, .i r.lim.rain, .i r.lim.temp.lo, .i r.lim.temp.hi]
def ruleRows (l : List Rule) : List (List DV) := l.map Rule.row
theorem ruleRows_len (l : List Rule) : (ruleRows l).length = l.length := by simp [ruleRows]
theorem ruleRows_at {l : List Rule} {i : Nat} {x : Rule} (h : l[i]? = some x) : (ruleRows l)[i]? = some x.row := by simp [ruleRows, h]
theorem ruleRows_head (l : List Rule) : headIs 6 (ruleRows l) = true := by cases l <;> rfl
theorem ruleRows_set (l : List Rule) (k : Nat) (x : Rule) : (ruleRows l).set k x.row = ruleRows (l.set k x) := by simp [ruleRows, List.map_set]
theorem rowsFlat_rule (l : List Rule) : rowsFlat (ruleRows l) := rowsFlat_map (by intro x d hd; simp [Rule.row] at hd; rcases hd with rfl | rfl | rfl | rfl | rfl | rfl <;> rfl) l
attribute [go_sem] ruleRows_len ruleRows_head
theorem f139 (xs : List Rule) (g : Nat) (caps : List DV) (q : Rule → Bool) (hq : ∀ s ∈ xs, Fn Tryz.prog g (.agg s.row :: caps) (.bool (q s))) (hl : xs.length < 2 ^ 62) : Fn Tryz.prog 139 [.sl (ruleRows xs), .fn g caps] (.i (idxFrom q xs 0)) := by
  refine fn_walk 19 Tryz.call139 Tryz.func139 rfl (by decide) fun J => ?_
  simp (maxSteps := 4000000) only [go_sem, St.start, Tryz.ntmps139, Tryz.results139]
  repeat (first | refine walkL_seq ?_ | refine walkL_skip ?_ | refine walkL_block ?_ | (refine walkL_region fun K hK => ?_; simp (maxSteps := 4000000) only [go_sem]; refine hK _ ?_; clear hK K) | refine walkL_nil ?_ | refine walkL_ret ?_ | refine walkL_exit ?_ | refine blockA_here ?_ | refine blockA_other rfl ?_ | refine blockA_ret ?_ | refine blockA_normal ?_ | refine thenA_ret ?_ | refine thenA_exit ?_ | refine thenA_normal ?_)
  refine walkL_loopS (fun (i : Nat) => [(8, .d (.i i))]) (fun _ => []) (fun i => i ≤ xs.length ∧ idxFrom q xs 0 = idxFrom q (xs.drop i) i) (fun i => xs.length - i) 0 ?_ ⟨Nat.zero_le _, rfl⟩ ?_
  · simp (maxSteps := 4000000) only [go_sem]
    refine weak_of [] ?_ ?_ rfl rfl <;> simp [lessT, lessM, lessB, AV.less]
  · intro i ⟨hi, hq0⟩
    simp (maxSteps := 4000000) only [go_sem]
    repeat (first | refine walkL_seq ?_ | refine walkL_skip ?_ | refine walkL_block ?_ | (refine walkL_region fun K hK => ?_; simp (maxSteps := 4000000) only [go_sem]; refine hK _ ?_; clear hK K) | refine walkL_nil ?_ | refine walkL_ret ?_ | refine walkL_exit ?_ | refine blockA_here ?_ | refine blockA_other rfl ?_ | refine blockA_ret ?_ | refine blockA_normal ?_ | refine thenA_ret ?_ | refine thenA_exit ?_ | refine thenA_normal ?_)
    refine walkL_cond rfl (fun hb => ?_) (fun hb => ?_)
    · have hlt : i < xs.length := by simpa using hb
      have hw : IntKind.i64.wrap ((i : Int) + 1) = ((i + 1 : Nat) : Int) := by rw [wr_small (by omega)]; simp
      obtain ⟨s, hs⟩ : ∃ s, xs[i]? = some s := ⟨_, List.getElem?_eq_getElem hlt⟩
      rw [drop_get hs, idxFrom] at hq0
      repeat (first | refine walkL_seq ?_ | refine walkL_skip ?_ | refine walkL_block ?_ | (refine walkL_region fun K hK => ?_; simp (maxSteps := 4000000) only [go_sem]; refine hK _ ?_; clear hK K) | refine walkL_nil ?_ | refine walkL_ret ?_ | refine walkL_exit ?_ | refine blockA_here ?_ | refine blockA_other rfl ?_ | refine blockA_ret ?_ | refine blockA_normal ?_ | refine thenA_ret ?_ | refine thenA_exit ?_ | refine thenA_normal ?_)
      refine walkL_region fun K hK => ?_
      simp (maxSteps := 4000000) only [go_sem, hs, List.getElem?_map, ruleRows_at hs, Rule.row, hw]
      refine ⟨_, .lent (hf := hq s (List.mem_of_getElem? hs)) (hd := reify_caps _ _ _ _ rfl) (hr := rfl), ?_⟩
      simp (maxSteps := 4000000) only [go_sem]
      refine hK _ ?_
      clear hK K
      refine walkL_cond rfl (fun hc => ?_) (fun hc => ?_)
      · rw [hc, if_pos rfl] at hq0
        repeat (first | refine walkL_seq ?_ | refine walkL_skip ?_ | refine walkL_block ?_ | (refine walkL_region fun K hK => ?_; simp (maxSteps := 4000000) only [go_sem]; refine hK _ ?_; clear hK K) | refine walkL_nil ?_ | refine walkL_ret ?_ | refine walkL_exit ?_ | refine blockA_here ?_ | refine blockA_other rfl ?_ | refine blockA_ret ?_ | refine blockA_normal ?_ | refine thenA_ret ?_ | refine thenA_exit ?_ | refine thenA_normal ?_)
        simp (maxSteps := 4000000) only [go_sem, hq0]
      · rw [hc] at hq0
        repeat (first | refine walkL_seq ?_ | refine walkL_skip ?_ | refine walkL_block ?_ | (refine walkL_region fun K hK => ?_; simp (maxSteps := 4000000) only [go_sem, hw]; refine hK _ ?_; clear hK K) | refine walkL_nil ?_ | refine walkL_ret ?_ | refine walkL_exit ?_ | refine blockA_here ?_ | refine blockA_other rfl ?_ | refine blockA_ret ?_ | refine blockA_normal ?_ | refine thenA_ret ?_ | refine thenA_exit ?_ | refine thenA_normal ?_)
        refine ⟨rfl, i + 1, ?_, ⟨hlt, hq0⟩, by omega⟩
        refine weak_of [] ?_ ?_ rfl rfl <;> simp [lessT, lessM, lessB, AV.less]
    · have he : i = xs.length := by (have : ¬ i < xs.length := by simpa using hb); omega
      subst he
      repeat (first | refine walkL_seq ?_ | refine walkL_skip ?_ | refine walkL_block ?_ | (refine walkL_region fun K hK => ?_; simp (maxSteps := 4000000) only [go_sem]; refine hK _ ?_; clear hK K) | refine walkL_nil ?_ | refine walkL_ret ?_ | refine walkL_exit ?_ | refine blockA_here ?_ | refine blockA_other rfl ?_ | refine blockA_ret ?_ | refine blockA_normal ?_ | refine thenA_ret ?_ | refine thenA_exit ?_ | refine thenA_normal ?_)
      simp (maxSteps := 4000000) only [go_sem, hq0, List.drop_length, idxFrom]
theorem f90 (xs : List Rule) (g : Nat) (caps : List DV) (q : Rule → Bool) (hq : ∀ s ∈ xs, Fn Tryz.prog g (.agg s.row :: caps) (.bool (q s))) (hl : xs.length < 2 ^ 62) : Fn Tryz.prog 90 [.sl (ruleRows xs), .fn g caps] (.bool (xs.any q)) := by
  refine fn_walk 9 Tryz.call90 Tryz.func90 rfl (by decide) fun J => ?_
  simp (maxSteps := 4000000) only [go_sem, St.start, Tryz.ntmps90, Tryz.results90]
  repeat (first | refine walkL_seq ?_ | refine walkL_skip ?_ | refine walkL_block ?_ | (refine walkL_region fun K hK => ?_; simp (maxSteps := 4000000) only [go_sem]; (repeat (first | (refine ⟨_, .lent (hf := f139 xs g caps q hq hl) (hd := rfl) (hr := rfl), ?_⟩; simp (maxSteps := 4000000) only [go_sem]) | (refine ⟨_, .given (hf := f139 xs g caps q hq hl) (hd := rfl) (ha := rfl), ?_⟩; simp (maxSteps := 4000000) only [go_sem]))); refine hK _ ?_; clear hK K) | refine walkL_nil ?_ | refine walkL_ret ?_ | refine walkL_exit ?_ | refine blockA_here ?_ | refine blockA_other rfl ?_ | refine blockA_ret ?_ | refine blockA_normal ?_ | refine thenA_ret ?_ | refine thenA_exit ?_ | refine thenA_normal ?_)
  simp (maxSteps := 4000000) only [go_sem, idxFrom_nonneg]
theorem f97 (l : List Rule) (hl : l.length < 2 ^ 30) : FnS Tryz.prog 97 [.sl (ruleRows l)] 79 6 (ruleRows l) := by
  have h1 : l.length ≤ 549755813888 := by omega
  have h2 : 0 + l.length ≤ 549755813888 := by omega
  cases l with
  | nil =>
    have e0 : ruleRows [] = [] := rfl
    have e1 : ([] : List (List DV)).isEmpty = true := rfl
    rw [e0]
    refine fnS_walk 8 Tryz.call97 Tryz.func97 rfl (by decide) fun J => ?_
    simp (maxSteps := 4000000) only [go_sem, St.start, Tryz.ntmps97, Tryz.results97]
    repeat (first | refine walkL_seq ?_ | refine walkL_skip ?_ | refine walkL_block ?_ | (refine walkL_region fun K hK => ?_; simp (maxSteps := 4000000) only [go_sem, e1]; refine hK _ ?_; clear hK K) | refine walkL_nil ?_ | refine walkL_ret ?_ | refine walkL_exit ?_ | refine blockA_here ?_ | refine blockA_other rfl ?_ | refine blockA_ret ?_ | refine blockA_normal ?_ | refine thenA_ret ?_ | refine thenA_exit ?_ | refine thenA_normal ?_)
    refine walkL_any rfl ?_ ?_
    · repeat (first | refine walkL_seq ?_ | refine walkL_skip ?_ | refine walkL_block ?_ | (refine walkL_region fun K hK => ?_; simp (maxSteps := 4000000) only [go_sem]; refine hK _ ?_; clear hK K) | refine walkL_nil ?_ | refine walkL_ret ?_ | refine walkL_exit ?_ | refine blockA_here ?_ | refine blockA_other rfl ?_ | refine blockA_ret ?_ | refine blockA_normal ?_ | refine thenA_ret ?_ | refine thenA_exit ?_ | refine thenA_normal ?_)
      simp (maxSteps := 4000000) only [go_sem]
    · repeat (first | refine walkL_seq ?_ | refine walkL_skip ?_ | refine walkL_block ?_ | (refine walkL_region fun K hK => ?_; simp (maxSteps := 4000000) only [go_sem, List.nil_append, List.length_nil]; refine hK _ ?_; clear hK K) | refine walkL_nil ?_ | refine walkL_ret ?_ | refine walkL_exit ?_ | refine blockA_here ?_ | refine blockA_other rfl ?_ | refine blockA_ret ?_ | refine blockA_normal ?_ | refine thenA_ret ?_ | refine thenA_exit ?_ | refine thenA_normal ?_)
      simp (maxSteps := 4000000) only [go_sem]
  | cons a l =>
    have hne : (ruleRows (a :: l)).isEmpty = false := rfl
    obtain ⟨L, hL⟩ : ∃ L, L = a :: l := ⟨_, rfl⟩
    rw [← hL] at h1 h2 hne ⊢
    refine fnS_walk 8 Tryz.call97 Tryz.func97 rfl (by decide) fun J => ?_
    simp (maxSteps := 4000000) only [go_sem, St.start, Tryz.ntmps97, Tryz.results97]
    repeat (first | refine walkL_true rfl ?_ | refine walkL_false rfl ?_ | refine walkL_seq ?_ | refine walkL_skip ?_ | refine walkL_block ?_ | (refine walkL_region fun K hK => ?_; simp (maxSteps := 4000000) only [go_sem, hne]; refine hK _ ?_; clear hK K) | refine walkL_nil ?_ | refine walkL_ret ?_ | refine walkL_exit ?_ | refine blockA_here ?_ | refine blockA_other rfl ?_ | refine blockA_ret ?_ | refine blockA_normal ?_ | refine thenA_ret ?_ | refine thenA_exit ?_ | refine thenA_normal ?_)
    repeat (first | refine walkL_seq ?_ | refine walkL_skip ?_ | refine walkL_block ?_ | (refine walkL_region fun K hK => ?_; simp (maxSteps := 4000000) only [go_sem, h1, h2, List.nil_append, List.length_nil]; refine hK _ ?_; clear hK K) | refine walkL_nil ?_ | refine walkL_ret ?_ | refine walkL_exit ?_ | refine blockA_here ?_ | refine blockA_other rfl ?_ | refine blockA_ret ?_ | refine blockA_normal ?_ | refine thenA_ret ?_ | refine thenA_exit ?_ | refine thenA_normal ?_)
    simp (maxSteps := 4000000) only [go_sem]
theorem f48 (l : List Span) (hl : l.length < 2 ^ 30) : FnS Tryz.prog 48 [.sl (spanRows l)] 48 2 (spanRows l) := by
  have h1 : l.length ≤ 549755813888 := by omega
  have h2 : 0 + l.length ≤ 549755813888 := by omega
  cases l with
  | nil =>
    have e0 : spanRows [] = [] := rfl
    have e1 : ([] : List (List DV)).isEmpty = true := rfl
    rw [e0]
    refine fnS_walk 8 Tryz.call48 Tryz.func48 rfl (by decide) fun J => ?_
    simp (maxSteps := 4000000) only [go_sem, St.start, Tryz.ntmps48, Tryz.results48]
    repeat (first | refine walkL_seq ?_ | refine walkL_skip ?_ | refine walkL_block ?_ | (refine walkL_region fun K hK => ?_; simp (maxSteps := 4000000) only [go_sem, e1]; refine hK _ ?_; clear hK K) | refine walkL_nil ?_ | refine walkL_ret ?_ | refine walkL_exit ?_ | refine blockA_here ?_ | refine blockA_other rfl ?_ | refine blockA_ret ?_ | refine blockA_normal ?_ | refine thenA_ret ?_ | refine thenA_exit ?_ | refine thenA_normal ?_)
    refine walkL_any rfl ?_ ?_
    · repeat (first | refine walkL_seq ?_ | refine walkL_skip ?_ | refine walkL_block ?_ | (refine walkL_region fun K hK => ?_; simp (maxSteps := 4000000) only [go_sem]; refine hK _ ?_; clear hK K) | refine walkL_nil ?_ | refine walkL_ret ?_ | refine walkL_exit ?_ | refine blockA_here ?_ | refine blockA_other rfl ?_ | refine blockA_ret ?_ | refine blockA_normal ?_ | refine thenA_ret ?_ | refine thenA_exit ?_ | refine thenA_normal ?_)
      simp (maxSteps := 4000000) only [go_sem]
    · repeat (first | refine walkL_seq ?_ | refine walkL_skip ?_ | refine walkL_block ?_ | (refine walkL_region fun K hK => ?_; simp (maxSteps := 4000000) only [go_sem, List.nil_append, List.length_nil]; refine hK _ ?_; clear hK K) | refine walkL_nil ?_ | refine walkL_ret ?_ | refine walkL_exit ?_ | refine blockA_here ?_ | refine blockA_other rfl ?_ | refine blockA_ret ?_ | refine blockA_normal ?_ | refine thenA_ret ?_ | refine thenA_exit ?_ | refine thenA_normal ?_)
      simp (maxSteps := 4000000) only [go_sem]
  | cons a l =>
    have hne : (spanRows (a :: l)).isEmpty = false := rfl
    obtain ⟨L, hL⟩ : ∃ L, L = a :: l := ⟨_, rfl⟩
    rw [← hL] at h1 h2 hne ⊢
    refine fnS_walk 8 Tryz.call48 Tryz.func48 rfl (by decide) fun J => ?_
    simp (maxSteps := 4000000) only [go_sem, St.start, Tryz.ntmps48, Tryz.results48]
    repeat (first | refine walkL_true rfl ?_ | refine walkL_false rfl ?_ | refine walkL_seq ?_ | refine walkL_skip ?_ | refine walkL_block ?_ | (refine walkL_region fun K hK => ?_; simp (maxSteps := 4000000) only [go_sem, hne]; refine hK _ ?_; clear hK K) | refine walkL_nil ?_ | refine walkL_ret ?_ | refine walkL_exit ?_ | refine blockA_here ?_ | refine blockA_other rfl ?_ | refine blockA_ret ?_ | refine blockA_normal ?_ | refine thenA_ret ?_ | refine thenA_exit ?_ | refine thenA_normal ?_)
    repeat (first | refine walkL_seq ?_ | refine walkL_skip ?_ | refine walkL_block ?_ | (refine walkL_region fun K hK => ?_; simp (maxSteps := 4000000) only [go_sem, h1, h2, List.nil_append, List.length_nil]; refine hK _ ?_; clear hK K) | refine walkL_nil ?_ | refine walkL_ret ?_ | refine walkL_exit ?_ | refine blockA_here ?_ | refine blockA_other rfl ?_ | refine blockA_ret ?_ | refine blockA_normal ?_ | refine thenA_ret ?_ | refine thenA_exit ?_ | refine thenA_normal ?_)
    simp (maxSteps := 4000000) only [go_sem]
theorem f98 (x : Rule) (p : Int) : Fn Tryz.prog 98 [.agg x.row, .ptr [.i p] 0] (.bool (x.path != p)) := by
  refine fn_walk 8 Tryz.call98 Tryz.func98 rfl (by decide) fun J => ?_
  simp (maxSteps := 4000000) only [go_sem, St.start, Tryz.ntmps98, Tryz.results98, Rule.row]
  repeat (first | refine walkL_seq ?_ | refine walkL_skip ?_ | refine walkL_block ?_ | (refine walkL_region fun K hK => ?_; simp (maxSteps := 4000000) only [go_sem]; refine hK _ ?_; clear hK K) | refine walkL_nil ?_ | refine walkL_ret ?_ | refine walkL_exit ?_ | refine blockA_here ?_ | refine blockA_other rfl ?_ | refine blockA_ret ?_ | refine blockA_normal ?_ | refine thenA_ret ?_ | refine thenA_exit ?_ | refine thenA_normal ?_)
  simp (maxSteps := 4000000) only [go_sem]
def delTo (q : Rule → Bool) (l : List Rule) (i0 : Nat) : Nat → Nat × List Rule
  | 0 => (i0, l)
  | k + 1 => match l[i0 + 1 + k]? with
    | some x => if q x then delTo q l i0 k else ((delTo q l i0 k).1 + 1, (delTo q l i0 k).2.set (delTo q l i0 k).1 x)
    | none => delTo q l i0 k
theorem idx_spec {α : Type} (q : α → Bool) : ∀ (l : List α) (i : Nat), (idxFrom q l i = -1 ∧ ∀ x ∈ l, q x = false) ∨ ∃ p x, idxFrom q l i = ((i + p : Nat) : Int) ∧ l[p]? = some x ∧ q x = true ∧ ∀ y ∈ l.take p, q y = false
  | [], i => .inl ⟨rfl, fun x h => by simp at h⟩
  | x :: l, i => by
    rw [idxFrom]
    by_cases h : q x = true
    · rw [if_pos h]
      exact .inr ⟨0, x, by simp, rfl, h, fun y hy => by simp at hy⟩
    · rw [if_neg h]
      have h' : q x = false := by simpa using h
      rcases idx_spec q l (i + 1) with ⟨h1, h2⟩ | ⟨p, y, h1, h2, h3, h4⟩
      · exact .inl ⟨h1, fun y hy => by rcases List.mem_cons.1 hy with rfl | hy; exact h'; exact h2 y hy⟩
      · refine .inr ⟨p + 1, y, by rw [h1]; congr 1; omega, by simpa using h2, h3, fun z hz => ?_⟩
        rw [List.take_succ_cons] at hz
        rcases List.mem_cons.1 hz with rfl | hz
        · exact h'
        · exact h4 z hz
theorem del_spec {q : Rule → Bool} {l : List Rule} {i0 : Nat} {x0 : Rule} (h0 : l[i0]? = some x0) (hq0 : q x0 = true) (hpre : ∀ y ∈ l.take i0, q y = false) : ∀ k, i0 + 1 + k ≤ l.length →
    (delTo q l i0 k).2.length = l.length ∧ (delTo q l i0 k).1 ≤ i0 + k ∧ (delTo q l i0 k).2.take (delTo q l i0 k).1 = (l.take (i0 + 1 + k)).filter (fun x => !q x) ∧ ∀ p, i0 + 1 + k ≤ p → (delTo q l i0 k).2[p]? = l[p]?
  | 0, hk => by
    refine ⟨rfl, Nat.le_refl _, ?_, fun p _ => rfl⟩
    show l.take i0 = _
    rw [Nat.add_zero, List.take_add_one, h0, List.filter_append]
    have e1 : (l.take i0).filter (fun x => !q x) = l.take i0 := List.filter_eq_self.2 fun y hy => by rw [hpre y hy]; rfl
    rw [e1]
    simp [hq0]
  | k + 1, hk => by
    obtain ⟨h1, h2, h3, h4⟩ := del_spec h0 hq0 hpre k (by omega)
    obtain ⟨x, hx⟩ : ∃ x, l[i0 + 1 + k]? = some x := ⟨_, List.getElem?_eq_getElem (by omega)⟩
    have htk : l.take (i0 + 1 + (k + 1)) = l.take (i0 + 1 + k) ++ [x] := by
      rw [show i0 + 1 + (k + 1) = i0 + 1 + k + 1 by omega, List.take_add_one, hx]; rfl
    rw [htk, List.filter_append]
    rw [delTo, hx]
    dsimp only
    by_cases hq : q x = true
    · rw [if_pos hq]
      refine ⟨h1, by omega, ?_, fun p hp => h4 p (by omega)⟩
      rw [h3]
      simp [hq]
    · rw [if_neg hq]
      have hq' : q x = false := by simpa using hq
      refine ⟨by simp [h1], by dsimp only; omega, ?_, fun p hp => ?_⟩
      · dsimp only
        rw [List.take_add_one, List.take_set_of_le (Nat.le_refl _), h3, List.getElem?_set_self (by omega)]
        simp [hq']
      · dsimp only
        rw [List.getElem?_set_ne (by omega)]
        exact h4 p (by omega)
theorem noRule_row : zrowP Tryz.prog 79 = some [.i 0, .i 0, .i 0, .i 0, .i 0, .i 0] := by kernel_rfl
theorem f96 (l : List Rule) (g : Nat) (caps : List DV) (q : Rule → Bool) (hq : ∀ x ∈ l, Fn Tryz.prog g (.agg x.row :: caps) (.bool (q x))) (hl : l.length < 2 ^ 30) :
    (∀ x ∈ l, q x = false) ∧ FnG Tryz.prog 96 [.arr 79 6 (ruleRows l)] [0] [.own 0, .d (.fn g caps)] (.own 0) [.arr 79 6 (ruleRows l)] ∨
    ∃ (k : Nat) (X : List (List DV)), X.take k = ruleRows (l.filter fun x => !q x) ∧ k ≤ X.length ∧ X.length = l.length ∧ (X.all fun r => r.all DV.flat) = true ∧ FnG Tryz.prog 96 [.arr 79 6 (ruleRows l)] [0] [.own 0, .d (.fn g caps)] (.view 0 0 k) [.arr 79 6 X] := by
  have h114 := f139 l g caps q hq (by omega)
  rcases idx_spec q l 0 with ⟨h1, h2⟩ | ⟨i0, x0, h1, h2, h3, h4⟩
  · rw [h1] at h114
    refine .inl ⟨h2, ?_⟩
    refine fnG_walk 42 Tryz.call96 Tryz.func96 rfl (by decide) [] [(0, 0)] (by simp only [List.length_cons, List.length_nil]; decide) (by kernel_rfl) fun J => ?_
    simp (maxSteps := 4000000) only [go_sem, St.startG, Tryz.ntmps96, Tryz.results96, List.map_cons, List.map_nil, List.range_succ]
    repeat (first | refine walkL_true rfl ?_ | refine walkL_false rfl ?_ | refine walkL_seq ?_ | refine walkL_skip ?_ | refine walkL_block ?_ | (refine walkL_region fun K hK => ?_; simp (maxSteps := 4000000) only [go_sem]; (repeat (first | (refine ⟨_, .lent (hf := h114) (hd := rfl) (hr := rfl), ?_⟩; simp (maxSteps := 4000000) only [go_sem]) | (refine ⟨_, .given (hf := h114) (hd := rfl) (ha := rfl), ?_⟩; simp (maxSteps := 4000000) only [go_sem]))); refine hK _ ?_; clear hK K) | refine walkL_nil ?_ | refine walkL_ret ?_ | refine walkL_exit ?_ | refine blockA_here ?_ | refine blockA_other rfl ?_ | refine blockA_ret ?_ | refine blockA_normal ?_ | refine thenA_ret ?_ | refine thenA_exit ?_ | refine thenA_normal ?_)
    simp (maxSteps := 4000000) only [go_sem, retG]
  · rw [h1, Nat.zero_add] at h114
    have hi0 : i0 < l.length := (List.getElem?_eq_some_iff.1 h2).1
    have hspec := del_spec h2 h3 h4
    obtain ⟨e1, e2, e3, e4⟩ := hspec (l.length - i0 - 1) (by omega)
    obtain ⟨E, hE⟩ : ∃ E, E = delTo q l i0 (l.length - i0 - 1) := ⟨_, rfl⟩
    rw [← hE] at e1 e2 e3
    rw [show i0 + 1 + (l.length - i0 - 1) = l.length by omega, List.take_length] at e3
    refine .inr ⟨E.1, (ruleRows E.2).take E.1 ++ (List.replicate (l.length - E.1) [.i 0, .i 0, .i 0, .i 0, .i 0, .i 0] ++ (ruleRows E.2).drop (E.1 + (l.length - E.1))), ?_, ?_, ?_, ?_, ?_⟩
    · rw [List.take_append_of_le_length (by simp [ruleRows, e1]; omega), List.take_of_length_le (by rw [List.length_take]; omega), ← e3]
      simp [ruleRows]
    · simp [ruleRows, e1]; omega
    · simp [ruleRows, e1]; omega
    · simp only [List.all_append, Bool.and_eq_true, List.all_eq_true]
      refine ⟨fun r hr d hd => rowsFlat_rule _ r (List.mem_of_mem_take hr) d hd, fun r hr => ?_, fun r hr d hd => rowsFlat_rule _ r (List.mem_of_mem_drop hr) d hd⟩
      rw [List.eq_of_mem_replicate hr]
      decide
    · have w0 : IntKind.i64.wrap ((i0 : Int) + 1) = ((i0 + 1 : Nat) : Int) := by rw [wr_small (by omega)]; simp
      have n0 : ((i0 : Int) == -1) = false := by
        have : ¬ ((i0 : Int) = -1) := by omega
        simp
      refine fnG_walk 42 Tryz.call96 Tryz.func96 rfl (by decide) [] [(0, 0)] (by simp only [List.length_cons, List.length_nil]; decide) (by kernel_rfl) fun J => ?_
      simp (maxSteps := 4000000) only [go_sem, St.startG, Tryz.ntmps96, Tryz.results96, List.map_cons, List.map_nil, List.range_succ]
      repeat (first | refine walkL_true rfl ?_ | refine walkL_false rfl ?_ | refine walkL_seq ?_ | refine walkL_skip ?_ | refine walkL_block ?_ | (refine walkL_region fun K hK => ?_; simp (maxSteps := 4000000) only [go_sem, n0, w0]; (repeat (first | (refine ⟨_, .lent (hf := h114) (hd := rfl) (hr := rfl), ?_⟩; simp (maxSteps := 4000000) only [go_sem, n0, w0]) | (refine ⟨_, .given (hf := h114) (hd := rfl) (ha := rfl), ?_⟩; simp (maxSteps := 4000000) only [go_sem, n0, w0]))); refine hK _ ?_; clear hK K) | refine walkL_nil ?_ | refine walkL_ret ?_ | refine walkL_exit ?_ | refine blockA_here ?_ | refine blockA_other rfl ?_ | refine blockA_ret ?_ | refine blockA_normal ?_ | refine thenA_ret ?_ | refine thenA_exit ?_ | refine thenA_normal ?_)
      refine walkL_loopS (fun (k : Nat) => [(6, .d (.i ((i0 + 1 + k : Nat) : Int))), (5, .d (.i (delTo q l i0 k).1)), (7, .undef)]) (fun k => [(42, some (.arr 79 6 (ruleRows (delTo q l i0 k).2)))]) (fun k => i0 + 1 + k ≤ l.length) (fun k => l.length - k) 0 ?_ (by omega) ?_
      · simp (maxSteps := 4000000) only [go_sem, Nat.add_zero, delTo]
        refine weak_of [] ?_ ?_ rfl rfl <;> simp [lessT, lessM, lessB, AV.less]
        all_goals first | done | rfl
      · intro k hk
        obtain ⟨k1, k2, k3, k4⟩ := hspec k hk
        have ek : ∀ x, l[i0 + 1 + k]? = some x → delTo q l i0 (k + 1) = if q x then delTo q l i0 k else ((delTo q l i0 k).1 + 1, (delTo q l i0 k).2.set (delTo q l i0 k).1 x) := fun x hx => by rw [delTo, hx]
        obtain ⟨D, hD⟩ : ∃ D, D = delTo q l i0 k := ⟨_, rfl⟩
        rw [← hD] at k1 k2 k3 k4 ek ⊢
        obtain ⟨i, C⟩ := D
        dsimp only at k1 k2 k3 k4 ek ⊢
        simp (maxSteps := 4000000) only [go_sem, k1]
        repeat (first | refine walkL_seq ?_ | refine walkL_skip ?_ | refine walkL_block ?_ | (refine walkL_region fun K hK => ?_; simp (maxSteps := 4000000) only [go_sem, k1]; refine hK _ ?_; clear hK K) | refine walkL_nil ?_ | refine walkL_ret ?_ | refine walkL_exit ?_ | refine blockA_here ?_ | refine blockA_other rfl ?_ | refine blockA_ret ?_ | refine blockA_normal ?_ | refine thenA_ret ?_ | refine thenA_exit ?_ | refine thenA_normal ?_)
        refine walkL_cond rfl (fun hb => ?_) (fun hb => ?_)
        · have hlt : i0 + 1 + k < l.length := by have := of_decide_eq_true hb; omega
          obtain ⟨x, hx⟩ : ∃ x, l[i0 + 1 + k]? = some x := ⟨_, List.getElem?_eq_getElem hlt⟩
          have hC : C[i0 + 1 + k]? = some x := by rw [k4 _ (Nat.le_refl _)]; exact hx
          have g1 := ruleRows_at hC
          have hlc : i0 + 1 + k < C.length := by omega
          have hic : i < C.length := by omega
          have hqx := hq x (List.mem_of_getElem? hx)
          have hek := ek x hx
          have w1 : IntKind.i64.wrap (((i0 + 1 + k : Nat) : Int) + 1) = ((i0 + 1 + (k + 1) : Nat) : Int) := by rw [wr_small (by omega)]; omega
          have w2 : IntKind.i64.wrap ((i : Int) + 1) = ((i + 1 : Nat) : Int) := by rw [wr_small (by omega)]; omega
          obtain ⟨j, hj⟩ : ∃ j, j = i0 + 1 + k := ⟨_, rfl⟩
          rw [← hj] at g1 hlc w1 ⊢
          obtain ⟨y, hy⟩ : ∃ y, (ruleRows C)[i]? = some y ∧ y.length = 6 := by
            obtain ⟨z, hz⟩ : ∃ z, C[i]? = some z := ⟨_, List.getElem?_eq_getElem hic⟩
            exact ⟨_, ruleRows_at hz, rfl⟩
          repeat (first | refine walkL_seq ?_ | refine walkL_skip ?_ | refine walkL_block ?_ | (refine walkL_region fun K hK => ?_; simp (maxSteps := 4000000) only [go_sem, g1, hlc, hic, Rule.row]; refine hK _ ?_; clear hK K) | refine walkL_nil ?_ | refine walkL_ret ?_ | refine walkL_exit ?_ | refine blockA_here ?_ | refine blockA_other rfl ?_ | refine blockA_ret ?_ | refine blockA_normal ?_ | refine thenA_ret ?_ | refine thenA_exit ?_ | refine thenA_normal ?_)
          refine walkL_region fun K hK => ?_
          simp (maxSteps := 4000000) only [go_sem]
          rw [Rule.row] at hqx
          refine ⟨_, .lent (hf := hqx) (hd := reify_caps _ _ _ _ rfl) (hr := rfl), ?_⟩
          simp (maxSteps := 4000000) only [go_sem]
          refine hK _ ?_
          clear hK K
          cases qx : q x
          · rw [qx] at hek
            simp only [Bool.false_eq_true, if_false] at hek
            have g2 := hy.1
            have hy6 := hy.2
            match y, hy6 with
            | [y1, y2, y3, y4, y5, y6], _ =>
            have e5 : (ruleRows C).set i [.i x.path, .i x.after, .i x.lim.wind, .i x.lim.rain, .i x.lim.temp.lo, .i x.lim.temp.hi] = ruleRows (C.set i x) := ruleRows_set C i x
            repeat (first | refine walkL_true rfl ?_ | refine walkL_false rfl ?_ | refine walkL_seq ?_ | refine walkL_skip ?_ | refine walkL_block ?_ | (refine walkL_region fun K hK => ?_; simp (maxSteps := 4000000) only [go_sem, g1, g2, hlc, hic, w1, w2]; refine hK _ ?_; clear hK K) | refine walkL_nil ?_ | refine walkL_ret ?_ | refine walkL_exit ?_ | refine blockA_here ?_ | refine blockA_other rfl ?_ | refine blockA_ret ?_ | refine blockA_normal ?_ | refine thenA_ret ?_ | refine thenA_exit ?_ | refine thenA_normal ?_)
            refine ⟨rfl, k + 1, ?_, by omega, by omega⟩
            rw [hek]
            dsimp only
            rw [← e5]
            refine weak_of [] ?_ ?_ rfl rfl <;> simp [lessT, lessM, lessB, AV.less]
            all_goals first | done | rfl
          · rw [qx] at hek
            simp only [if_true] at hek
            repeat (first | refine walkL_true rfl ?_ | refine walkL_false rfl ?_ | refine walkL_seq ?_ | refine walkL_skip ?_ | refine walkL_block ?_ | (refine walkL_region fun K hK => ?_; simp (maxSteps := 4000000) only [go_sem, w1]; refine hK _ ?_; clear hK K) | refine walkL_nil ?_ | refine walkL_ret ?_ | refine walkL_exit ?_ | refine blockA_here ?_ | refine blockA_other rfl ?_ | refine blockA_ret ?_ | refine blockA_normal ?_ | refine thenA_ret ?_ | refine thenA_exit ?_ | refine thenA_normal ?_)
            refine ⟨rfl, k + 1, ?_, by omega, by omega⟩
            rw [hek]
            refine weak_of [] ?_ ?_ rfl rfl <;> simp [lessT, lessM, lessB, AV.less]
            all_goals first | done | rfl
        · have hkl : k = l.length - i0 - 1 := by have := of_decide_eq_false hb; omega
          rw [hkl, ← hE] at hD
          rw [← hD] at e1 e2 e3 ⊢
          dsimp only at e1 e2 e3 ⊢
          have v0 : (0 : Int) ≤ (i : Int) ∧ (i : Int) ≤ (l.length : Int) := by omega
          have v1 : i ≤ l.length := by omega
          have v2 : i + (l.length - i) ≤ l.length := by omega
          have v3 : (6 : Nat) = 6 ∧ i + (l.length - i) ≤ l.length := ⟨rfl, v2⟩
          have v4 : ((List.take i (ruleRows C)).length + ((l.length - i) + (List.drop (i + (l.length - i)) (ruleRows C)).length)) = l.length := by simp [ruleRows, k1]; omega
          repeat (first | refine walkL_seq ?_ | refine walkL_skip ?_ | refine walkL_block ?_ | (refine walkL_region fun K hK => ?_; simp (maxSteps := 4000000) only [go_sem, k1, v0, v1, v2, v3, v4, noRule_row]; refine hK _ ?_; clear hK K) | refine walkL_nil ?_ | refine walkL_ret ?_ | refine walkL_exit ?_ | refine blockA_here ?_ | refine blockA_other rfl ?_ | refine blockA_ret ?_ | refine blockA_normal ?_ | refine thenA_ret ?_ | refine thenA_exit ?_ | refine thenA_normal ?_)
          simp (maxSteps := 4000000) only [go_sem, retG, v4, v1, Nat.sub_zero]
end Go.Ab
namespace Go.Ab
open Go.RowKit Go.Proofs
set_option maxHeartbeats 8000000
set_option maxRecDepth 20000
attribute [local irreducible] WalkL Walk
theorem hid_prog : hidP Tryz.prog = true := by kernel_rfl
attribute [go_sem] hid_prog
def andL (a l : Limits) : Limits := ⟨min a.wind l.wind, min a.rain l.rain, ⟨max a.temp.lo l.temp.lo, min a.temp.hi l.temp.hi⟩⟩
def wideL : Limits := ⟨200, 100, ⟨-50, 50⟩⟩
theorem f158 (a l : Limits) : Fn Tryz.prog 158 [.agg a.row, .agg l.row] (.agg (andL a l).row) := by
  refine fn_walk 36 Tryz.call158 Tryz.func158 rfl (by decide) fun J => ?_
  simp (maxSteps := 4000000) only [go_sem, St.start, Tryz.ntmps158, Tryz.results158, Limits.row]
  repeat (first | refine walkL_seq ?_ | refine walkL_skip ?_ | refine walkL_block ?_ | (refine walkL_region fun K hK => ?_; simp (maxSteps := 4000000) only [go_sem]; refine hK _ ?_; clear hK K) | refine walkL_nil ?_ | refine walkL_ret ?_ | refine walkL_exit ?_ | refine blockA_here ?_ | refine blockA_other rfl ?_ | refine blockA_ret ?_ | refine blockA_normal ?_ | refine thenA_ret ?_ | refine thenA_exit ?_ | refine thenA_normal ?_)
  simp (maxSteps := 4000000) only [go_sem, andL, Limits.row]
def limF (rules : List Rule) (before hour : Int) : Limits := rules.foldl (fun l x => if decide (hour - x.after ≤ before) then andL l x.lim else l) wideL
theorem f140 (o : DV) (rules : List Rule) (before hour : Int) (ha : ∀ x ∈ rules, 0 ≤ x.after ∧ x.after ≤ 48) (hh : 0 ≤ hour ∧ hour ≤ 1000) (hl : rules.length < 2 ^ 30) :
    Fn Tryz.prog 140 [.ptr [o, .sl (ruleRows rules)] 0, .i before, .i hour] (.agg (limF rules before hour).row) := by
  refine fn_walk 32 Tryz.call140 Tryz.func140 rfl (by decide) fun J => ?_
  simp (maxSteps := 4000000) only [go_sem, St.start, Tryz.ntmps140, Tryz.results140]
  repeat (first | refine walkL_seq ?_ | refine walkL_skip ?_ | refine walkL_block ?_ | (refine walkL_region fun K hK => ?_; simp (maxSteps := 4000000) only [go_sem]; refine hK _ ?_; clear hK K) | refine walkL_nil ?_ | refine walkL_ret ?_ | refine walkL_exit ?_ | refine blockA_here ?_ | refine blockA_other rfl ?_ | refine blockA_ret ?_ | refine blockA_normal ?_ | refine thenA_ret ?_ | refine thenA_exit ?_ | refine thenA_normal ?_)
  refine walkL_loopS (fun (i : Nat) => [(16, .d (.i i))]) (fun i => [(7, some (.box ((limF (rules.take i) before hour).row.map AV.d)))]) (fun i => i ≤ rules.length) (fun i => rules.length - i) 0 ?_ (Nat.zero_le _) ?_
  · simp (maxSteps := 4000000) only [go_sem, Limits.row, List.map_cons, List.map_nil]
    refine weak_of [] ?_ ?_ rfl rfl <;> simp [lessT, lessM, lessB, AV.less]
    all_goals first | done | rfl | exact ⟨rfl, rfl, rfl, rfl⟩
  · intro i hi
    obtain ⟨a, ha0⟩ : ∃ a, a = limF (rules.take i) before hour := ⟨_, rfl⟩
    rw [← ha0]
    simp (maxSteps := 4000000) only [go_sem, Limits.row, List.map_cons, List.map_nil]
    repeat (first | refine walkL_seq ?_ | refine walkL_skip ?_ | refine walkL_block ?_ | (refine walkL_region fun K hK => ?_; simp (maxSteps := 4000000) only [go_sem]; refine hK _ ?_; clear hK K) | refine walkL_nil ?_ | refine walkL_ret ?_ | refine walkL_exit ?_ | refine blockA_here ?_ | refine blockA_other rfl ?_ | refine blockA_ret ?_ | refine blockA_normal ?_ | refine thenA_ret ?_ | refine thenA_exit ?_ | refine thenA_normal ?_)
    refine walkL_cond rfl (fun hb => ?_) (fun hb => ?_)
    · have hlt : i < rules.length := by simpa using hb
      have hw : IntKind.i64.wrap ((i : Int) + 1) = ((i + 1 : Nat) : Int) := by rw [wr_small (by omega)]; simp
      obtain ⟨x, hx⟩ : ∃ x, rules[i]? = some x := ⟨_, List.getElem?_eq_getElem hlt⟩
      have g1 := ruleRows_at hx
      have hax := ha x (List.mem_of_getElem? hx)
      have w1 : IntKind.i64.wrap (hour - x.after) = hour - x.after := wr_small (by omega)
      have n1 : limF (rules.take (i + 1)) before hour = if decide (hour - x.after ≤ before) then andL a x.lim else a := by rw [ha0]; exact foldl_take_succ _ _ _ _ _ hx
      have c1 := f158 a x.lim
      simp only [Limits.row] at c1
      cases q : decide (hour - x.after ≤ before)
      all_goals
        rw [q] at n1
        simp only [Bool.false_eq_true, if_false, if_true] at n1
        repeat (first | refine walkL_true rfl ?_ | refine walkL_false rfl ?_ | refine walkL_seq ?_ | refine walkL_skip ?_ | refine walkL_block ?_ | (refine walkL_region fun K hK => ?_; simp (maxSteps := 4000000) only [go_sem, g1, Rule.row, w1, q, hw]; (repeat (first | (refine ⟨_, .lent (hf := c1) (hd := rfl) (hr := rfl), ?_⟩; simp (maxSteps := 4000000) only [go_sem, g1, Rule.row, w1, q, hw]) | (refine ⟨_, .given (hf := c1) (hd := rfl) (ha := rfl), ?_⟩; simp (maxSteps := 4000000) only [go_sem, g1, Rule.row, w1, q, hw]))); refine hK _ ?_; clear hK K) | refine walkL_nil ?_ | refine walkL_ret ?_ | refine walkL_exit ?_ | refine blockA_here ?_ | refine blockA_other rfl ?_ | refine blockA_ret ?_ | refine blockA_normal ?_ | refine thenA_ret ?_ | refine thenA_exit ?_ | refine thenA_normal ?_)
        refine ⟨rfl, i + 1, ?_, hlt, by omega⟩
        rw [n1]
        refine weak_of [] ?_ ?_ rfl rfl <;> simp [lessT, lessM, lessB, AV.less]
        all_goals first | done | rfl | simp [Limits.row]
    · have he : i = rules.length := by (have : ¬ i < rules.length := by simpa using hb); omega
      subst he
      rw [List.take_length] at ha0
      rw [← ha0]
      repeat (first | refine walkL_seq ?_ | refine walkL_skip ?_ | refine walkL_block ?_ | (refine walkL_region fun K hK => ?_; simp (maxSteps := 4000000) only [go_sem]; refine hK _ ?_; clear hK K) | refine walkL_nil ?_ | refine walkL_ret ?_ | refine walkL_exit ?_ | refine blockA_here ?_ | refine blockA_other rfl ?_ | refine blockA_ret ?_ | refine blockA_normal ?_ | refine thenA_ret ?_ | refine thenA_exit ?_ | refine thenA_normal ?_)
      simp (maxSteps := 4000000) only [go_sem, Limits.row]
def keepsB (kf : Limits → Hour → Bool) (rules : List Rule) (s : List Hour) (hour : Nat) : Bool := (List.range (hour + 1)).all fun b => kf (limF rules (b : Int) (hour : Int)) (hourAt s (b : Int))
theorem range_all_succ (q : Nat → Bool) (n : Nat) : (List.range (n + 1)).all q = ((List.range n).all q && q n) := by
  rw [List.range_succ, List.all_append]; simp
theorem range_all_bad {q : Nat → Bool} {i n : Nat} (hi : i < n) (h : q i = false) : (List.range n).all q = false := by
  cases hc : (List.range n).all q with
  | false => rfl
  | true => rw [List.all_eq_true] at hc; have := hc i (List.mem_range.2 hi); rw [h] at this; cases this
theorem f92 (o : DV) (rules : List Rule) (s : List Hour) (hour : Nat) (g : Nat) (kf : Limits → Hour → Bool) (hk : ∀ L h, Fn Tryz.prog g [.agg L.row, .agg h.row] (.bool (kf L h))) (ha : ∀ x ∈ rules, 0 ≤ x.after ∧ x.after ≤ 48) (hh : hour < s.length) (hs : s.length ≤ 48) (hl : rules.length < 2 ^ 30) :
    Fn Tryz.prog 92 [.ptr [o, .sl (ruleRows rules)] 0, .sl (hourRows s), .i hour, .fn g []] (.bool (keepsB kf rules s hour)) := by
  have w0 : IntKind.i64.wrap ((hour : Int) + 1) = ((hour + 1 : Nat) : Int) := by rw [wr_small (by omega)]; simp
  refine fn_walk 27 Tryz.call92 Tryz.func92 rfl (by decide) fun J => ?_
  simp (maxSteps := 4000000) only [go_sem, St.start, Tryz.ntmps92, Tryz.results92]
  repeat (first | refine walkL_seq ?_ | refine walkL_skip ?_ | refine walkL_block ?_ | (refine walkL_region fun K hK => ?_; simp (maxSteps := 4000000) only [go_sem, w0]; refine hK _ ?_; clear hK K) | refine walkL_nil ?_ | refine walkL_ret ?_ | refine walkL_exit ?_ | refine blockA_here ?_ | refine blockA_other rfl ?_ | refine blockA_ret ?_ | refine blockA_normal ?_ | refine thenA_ret ?_ | refine thenA_exit ?_ | refine thenA_normal ?_)
  refine walkL_loopS (fun (i : Nat) => [(12, .d (.i i)), (9, .undef)]) (fun _ => []) (fun i => i ≤ hour + 1 ∧ ((List.range i).all fun b => kf (limF rules (b : Int) (hour : Int)) (hourAt s (b : Int))) = true) (fun i => hour + 1 - i) 0 ?_ ⟨Nat.zero_le _, rfl⟩ ?_
  · simp (maxSteps := 4000000) only [go_sem]
    refine weak_of [] ?_ ?_ rfl rfl <;> simp [lessT, lessM, lessB, AV.less]
  · intro i ⟨hi, hall⟩
    simp (maxSteps := 4000000) only [go_sem]
    repeat (first | refine walkL_seq ?_ | refine walkL_skip ?_ | refine walkL_block ?_ | (refine walkL_region fun K hK => ?_; simp (maxSteps := 4000000) only [go_sem]; refine hK _ ?_; clear hK K) | refine walkL_nil ?_ | refine walkL_ret ?_ | refine walkL_exit ?_ | refine blockA_here ?_ | refine blockA_other rfl ?_ | refine blockA_ret ?_ | refine blockA_normal ?_ | refine thenA_ret ?_ | refine thenA_exit ?_ | refine thenA_normal ?_)
    refine walkL_cond rfl (fun hb => ?_) (fun hb => ?_)
    · have hlt : i < hour + 1 := by have := of_decide_eq_true hb; omega
      have hw : IntKind.i64.wrap ((i : Int) + 1) = ((i + 1 : Nat) : Int) := by rw [wr_small (by omega)]; simp
      have c1 := f140 o rules i hour ha ⟨by omega, by omega⟩ hl
      have g1 := hourRows_at (hourAt_get (l := s) (i := (i : Int)) ⟨by omega, by omega⟩)
      rw [Int.toNat_natCast] at g1
      have c2 := hk (limF rules i hour) (hourAt s (i : Int))
      have n1 := range_all_succ (fun b => kf (limF rules (b : Int) (hour : Int)) (hourAt s (b : Int))) i
      rw [hall, Bool.true_and] at n1
      cases q : kf (limF rules i hour) (hourAt s (i : Int))
      · have e : keepsB kf rules s hour = false := range_all_bad hlt q
        rw [e]
        rw [q] at c2
        rw [Hour.row] at c2 g1
        repeat (first | refine walkL_true rfl ?_ | refine walkL_false rfl ?_ | refine walkL_seq ?_ | refine walkL_skip ?_ | refine walkL_block ?_ | (refine walkL_region fun K hK => ?_; simp (maxSteps := 4000000) only [go_sem]; refine hK _ ?_; clear hK K) | refine walkL_nil ?_ | refine walkL_ret ?_ | refine walkL_exit ?_ | refine blockA_here ?_ | refine blockA_other rfl ?_ | refine blockA_ret ?_ | refine blockA_normal ?_ | refine thenA_ret ?_ | refine thenA_exit ?_ | refine thenA_normal ?_)
        refine walkL_drawn (by kernel_rfl) (by kernel_rfl) fun K hK => ?_
        simp (maxSteps := 4000000) only [go_sem]
        refine ⟨_, .fn (hf := c1) (hd := rfl) (hr := .inr rfl), ?_⟩
        simp (maxSteps := 4000000) only [go_sem, g1]
        refine ⟨_, .fn (hf := c2) (hd := rfl) (hr := .inr rfl), ?_⟩
        simp (maxSteps := 4000000) only [go_sem]
        refine ⟨by kernel_rfl, hK _ ?_⟩
        clear hK K
        repeat (first | refine walkL_true rfl ?_ | refine walkL_false rfl ?_ | refine walkL_seq ?_ | refine walkL_skip ?_ | refine walkL_block ?_ | (refine walkL_region fun K hK => ?_; simp (maxSteps := 4000000) only [go_sem]; refine hK _ ?_; clear hK K) | refine walkL_nil ?_ | refine walkL_ret ?_ | refine walkL_exit ?_ | refine blockA_here ?_ | refine blockA_other rfl ?_ | refine blockA_ret ?_ | refine blockA_normal ?_ | refine thenA_ret ?_ | refine thenA_exit ?_ | refine thenA_normal ?_)
        simp (maxSteps := 4000000) only [go_sem]
      · rw [q] at c2 n1
        rw [Hour.row] at c2 g1
        repeat (first | refine walkL_true rfl ?_ | refine walkL_false rfl ?_ | refine walkL_seq ?_ | refine walkL_skip ?_ | refine walkL_block ?_ | (refine walkL_region fun K hK => ?_; simp (maxSteps := 4000000) only [go_sem]; refine hK _ ?_; clear hK K) | refine walkL_nil ?_ | refine walkL_ret ?_ | refine walkL_exit ?_ | refine blockA_here ?_ | refine blockA_other rfl ?_ | refine blockA_ret ?_ | refine blockA_normal ?_ | refine thenA_ret ?_ | refine thenA_exit ?_ | refine thenA_normal ?_)
        refine walkL_drawn (by kernel_rfl) (by kernel_rfl) fun K hK => ?_
        simp (maxSteps := 4000000) only [go_sem]
        refine ⟨_, .fn (hf := c1) (hd := rfl) (hr := .inr rfl), ?_⟩
        simp (maxSteps := 4000000) only [go_sem, g1]
        refine ⟨_, .fn (hf := c2) (hd := rfl) (hr := .inr rfl), ?_⟩
        simp (maxSteps := 4000000) only [go_sem]
        refine ⟨by kernel_rfl, hK _ ?_⟩
        clear hK K
        repeat (first | refine walkL_true rfl ?_ | refine walkL_false rfl ?_ | refine walkL_seq ?_ | refine walkL_skip ?_ | refine walkL_block ?_ | (refine walkL_region fun K hK => ?_; simp (maxSteps := 4000000) only [go_sem, hw]; refine hK _ ?_; clear hK K) | refine walkL_nil ?_ | refine walkL_ret ?_ | refine walkL_exit ?_ | refine blockA_here ?_ | refine blockA_other rfl ?_ | refine blockA_ret ?_ | refine blockA_normal ?_ | refine thenA_ret ?_ | refine thenA_exit ?_ | refine thenA_normal ?_)
        refine ⟨rfl, i + 1, ?_, ⟨hlt, n1⟩, by omega⟩
        refine weak_of [] ?_ ?_ rfl rfl <;> simp [lessT, lessM, lessB, AV.less]
    · have he : i = hour + 1 := by have := of_decide_eq_false hb; omega
      subst he
      have e : keepsB kf rules s hour = true := hall
      rw [e]
      repeat (first | refine walkL_seq ?_ | refine walkL_skip ?_ | refine walkL_block ?_ | (refine walkL_region fun K hK => ?_; simp (maxSteps := 4000000) only [go_sem]; refine hK _ ?_; clear hK K) | refine walkL_nil ?_ | refine walkL_ret ?_ | refine walkL_exit ?_ | refine blockA_here ?_ | refine blockA_other rfl ?_ | refine blockA_ret ?_ | refine blockA_normal ?_ | refine thenA_ret ?_ | refine thenA_exit ?_ | refine thenA_normal ?_)
      simp (maxSteps := 4000000) only [go_sem]
theorem f91 (o : DV) (rules : List Rule) (s : List Hour) (hour : Nat) (ha : ∀ x ∈ rules, 0 ≤ x.after ∧ x.after ≤ 48) (hh : hour < s.length) (hs : s.length ≤ 48) (hl : rules.length < 2 ^ 30) :
    Fn Tryz.prog 91 [.sl (hourRows s), .i hour, .ptr [.ptr [o, .sl (ruleRows rules)] 0] 0] (.bool (keepsB alwaysB rules s hour)) := by
  have c := f92 o rules s hour 63 alwaysB f63 ha hh hs hl
  refine fn_walk 10 Tryz.call91 Tryz.func91 rfl (by decide) fun J => ?_
  simp (maxSteps := 4000000) only [go_sem, St.start, Tryz.ntmps91, Tryz.results91]
  repeat (first | refine walkL_seq ?_ | refine walkL_skip ?_ | refine walkL_block ?_ | (refine walkL_region fun K hK => ?_; simp (maxSteps := 4000000) only [go_sem]; (repeat (first | (refine ⟨_, .lent (hf := c) (hd := rfl) (hr := rfl), ?_⟩; simp (maxSteps := 4000000) only [go_sem]) | (refine ⟨_, .given (hf := c) (hd := rfl) (ha := rfl), ?_⟩; simp (maxSteps := 4000000) only [go_sem]))); refine hK _ ?_; clear hK K) | refine walkL_nil ?_ | refine walkL_ret ?_ | refine walkL_exit ?_ | refine blockA_here ?_ | refine blockA_other rfl ?_ | refine blockA_ret ?_ | refine blockA_normal ?_ | refine thenA_ret ?_ | refine thenA_exit ?_ | refine thenA_normal ?_)
  simp (maxSteps := 4000000) only [go_sem]
theorem f93 (o : DV) (rules : List Rule) (s : List Hour) (hour : Nat) (ha : ∀ x ∈ rules, 0 ≤ x.after ∧ x.after ≤ 48) (hh : hour < s.length) (hs : s.length ≤ 48) (hl : rules.length < 2 ^ 30) :
    Fn Tryz.prog 93 [.sl (hourRows s), .i hour, .ptr [.ptr [o, .sl (ruleRows rules)] 0] 0] (.bool (keepsB everB rules s hour)) := by
  have c := f92 o rules s hour 66 everB f66 ha hh hs hl
  refine fn_walk 10 Tryz.call93 Tryz.func93 rfl (by decide) fun J => ?_
  simp (maxSteps := 4000000) only [go_sem, St.start, Tryz.ntmps93, Tryz.results93]
  repeat (first | refine walkL_seq ?_ | refine walkL_skip ?_ | refine walkL_block ?_ | (refine walkL_region fun K hK => ?_; simp (maxSteps := 4000000) only [go_sem]; (repeat (first | (refine ⟨_, .lent (hf := c) (hd := rfl) (hr := rfl), ?_⟩; simp (maxSteps := 4000000) only [go_sem]) | (refine ⟨_, .given (hf := c) (hd := rfl) (ha := rfl), ?_⟩; simp (maxSteps := 4000000) only [go_sem]))); refine hK _ ?_; clear hK K) | refine walkL_nil ?_ | refine walkL_ret ?_ | refine walkL_exit ?_ | refine blockA_here ?_ | refine blockA_other rfl ?_ | refine blockA_ret ?_ | refine blockA_normal ?_ | refine thenA_ret ?_ | refine thenA_exit ?_ | refine thenA_normal ?_)
  simp (maxSteps := 4000000) only [go_sem]
def openS (rules : List Rule) (S : List (List Hour)) (H : Nat) : List Span := spansQ (fun i => S.all fun s => keepsB alwaysB rules s i) H
def openM (rules : List Rule) (S : List (List Hour)) (H : Nat) : List Span := spansQ (fun i => S.any fun s => keepsB everB rules s i) H
theorem f41 (N : List Int) (S : List (List Hour)) (H : Nat) (rules : List Rule) (ha : ∀ x ∈ rules, 0 ≤ x.after ∧ x.after ≤ 48) (hS : ∀ s ∈ S, s.length = H) (hH : H ≤ 48) (hSl : S.length < 2 ^ 30) (hl : rules.length < 2 ^ 30) :
    Fn Tryz.prog 41 [.ptr [outV N S H, .sl (ruleRows rules)] 0] (.tup [.sl (spanRows (openS rules S H)), .sl (spanRows (openM rules S H))]) := by
  have h41 := f61 N S H 91 [.ptr [.ptr [outV N S H, .sl (ruleRows rules)] 0] 0] (fun s i => keepsB alwaysB rules s i) (fun s hs i hi => f91 _ rules s i ha (by rw [hS s hs]; exact hi) (by rw [hS s hs]; exact hH) hl) hSl (by omega)
  have h44 := f64 N S H 93 [.ptr [.ptr [outV N S H, .sl (ruleRows rules)] 0] 0] (fun s i => keepsB everB rules s i) (fun s hs i hi => f93 _ rules s i ha (by rw [hS s hs]; exact hi) (by rw [hS s hs]; exact hH) hl) hSl (by omega)
  change FnS Tryz.prog 61 _ 48 2 (spanRows (openS rules S H)) at h41
  change FnS Tryz.prog 64 _ 48 2 (spanRows (openM rules S H)) at h44
  obtain ⟨A, hA⟩ : ∃ A, A = openS rules S H := ⟨_, rfl⟩
  obtain ⟨B, hB⟩ : ∃ B, B = openM rules S H := ⟨_, rfl⟩
  rw [← hA] at h41 ⊢
  rw [← hB] at h44 ⊢
  rw [outV] at h41 h44
  refine fn_walk 18 Tryz.call41 Tryz.func41 rfl (by decide) fun J => ?_
  simp (maxSteps := 4000000) only [go_sem, St.start, Tryz.ntmps41, Tryz.results41, outV]
  repeat (first | refine walkL_seq ?_ | refine walkL_skip ?_ | refine walkL_block ?_ | (refine walkL_region fun K hK => ?_; simp (maxSteps := 4000000) only [go_sem]; refine hK _ ?_; clear hK K) | refine walkL_nil ?_ | refine walkL_ret ?_ | refine walkL_exit ?_ | refine blockA_here ?_ | refine blockA_other rfl ?_ | refine blockA_ret ?_ | refine blockA_normal ?_ | refine thenA_ret ?_ | refine thenA_exit ?_ | refine thenA_normal ?_)
  refine walkL_region fun K hK => ?_
  simp (maxSteps := 4000000) only [go_sem]
  refine ⟨_, .lentS (hdst := rfl) (hf := h41) (hd := rfl) (hr := by first | exact rowsFlat_int _ | exact rowsFlat_hour _ | exact rowsFlat_sight _ | exact rowsFlat_sky _ | exact rowsFlat_span _ | exact rowsFlat_bool _) (hfr := rfl), ?_⟩
  simp (maxSteps := 4000000) only [go_sem]
  refine hK _ ?_
  clear hK K
  repeat (first | refine walkL_seq ?_ | refine walkL_skip ?_ | refine walkL_block ?_ | (refine walkL_region fun K hK => ?_; simp (maxSteps := 4000000) only [go_sem]; refine hK _ ?_; clear hK K) | refine walkL_nil ?_ | refine walkL_ret ?_ | refine walkL_exit ?_ | refine blockA_here ?_ | refine blockA_other rfl ?_ | refine blockA_ret ?_ | refine blockA_normal ?_ | refine thenA_ret ?_ | refine thenA_exit ?_ | refine thenA_normal ?_)
  refine walkL_region fun K hK => ?_
  simp (maxSteps := 4000000) only [go_sem]
  refine ⟨_, .lentS (hdst := rfl) (hf := h44) (hd := rfl) (hr := by first | exact rowsFlat_int _ | exact rowsFlat_hour _ | exact rowsFlat_sight _ | exact rowsFlat_sky _ | exact rowsFlat_span _ | exact rowsFlat_bool _) (hfr := rfl), ?_⟩
  simp (maxSteps := 4000000) only [go_sem]
  refine hK _ ?_
  clear hK K
  repeat (first | refine walkL_seq ?_ | refine walkL_skip ?_ | refine walkL_block ?_ | (refine walkL_region fun K hK => ?_; simp (maxSteps := 4000000) only [go_sem]; refine hK _ ?_; clear hK K) | refine walkL_nil ?_ | refine walkL_ret ?_ | refine walkL_exit ?_ | refine blockA_here ?_ | refine blockA_other rfl ?_ | refine blockA_ret ?_ | refine blockA_normal ?_ | refine thenA_ret ?_ | refine thenA_exit ?_ | refine thenA_normal ?_)
  simp (maxSteps := 4000000) only [go_sem]
def ofPath (l : List Rule) (p : Int) : List Rule := l.filter fun x => x.path == p
theorem f47 (ro : List DV) (l : List Rule) (p : Int) (hl : l.length < 2 ^ 30) : Fn Tryz.prog 47 [.ptr [.ptr ro 0, .sl (ruleRows l)] 0, .i p] (.ptr [.ptr ro 0, .sl (ruleRows (ofPath l p))] 0) := by
  have h94 := f97 l hl
  have ef : (l.filter fun x => !(x.path != p)) = ofPath l p := by unfold ofPath; congr 1; funext x; simp [bne]
  rcases f96 l 98 [.ptr [.i p] 0] (fun x => x.path != p) (fun x _ => f98 x p) hl with ⟨hno, h93⟩ | ⟨k, X, x1, x2, x3, x4, h93⟩
  · have e : ofPath l p = l := by
      rw [← ef]
      exact List.filter_eq_self.2 fun x hx => by rw [hno x hx]; rfl
    rw [e]
    refine fn_walk 18 Tryz.call47 Tryz.func47 rfl (by decide) fun J => ?_
    simp (maxSteps := 4000000) only [go_sem, St.start, Tryz.ntmps47, Tryz.results47]
    repeat (first | refine walkL_seq ?_ | refine walkL_skip ?_ | refine walkL_block ?_ | (refine walkL_region fun K hK => ?_; simp (maxSteps := 4000000) only [go_sem]; refine hK _ ?_; clear hK K) | refine walkL_nil ?_ | refine walkL_ret ?_ | refine walkL_exit ?_ | refine blockA_here ?_ | refine blockA_other rfl ?_ | refine blockA_ret ?_ | refine blockA_normal ?_ | refine thenA_ret ?_ | refine thenA_exit ?_ | refine thenA_normal ?_)
    refine walkL_drawn (by kernel_rfl) (by kernel_rfl) fun K hK => ?_
    simp (maxSteps := 4000000) only [go_sem]
    refine ⟨_, .fnS (hdst := rfl) (hf := h94) (hd := rfl) (hr := .inr rfl) (hfr := rfl), ?_⟩
    simp (maxSteps := 4000000) only [go_sem]
    refine ⟨_, .inPlaceR (n := 13) (rd := [3]) (hf := h93) (hn := rfl) (hb := rfl) (hla := rfl) (ha := argG_all (by repeat (first | exact trivial | refine And.intro ?_ ?_ | exact argG_ren rfl | exact argG_deep rfl rfl))) (hx := by first | decide | simp [AV.refsAll, AV.refs, AV.refs.AV.refss]) (hrx := by first | decide | simp [AV.refsAll, AV.refs, AV.refs.AV.refss]) (hrd := by decide) (hsh := by intro n hn row hrow k hk; simp at hn; subst hn; simp at hrow; subst hrow; simp [AV.refs, AV.refs.AV.refss] at hk) (hfl := ⟨rfl, by simp only [Blk.flatB, List.all_eq_true]; exact rowsFlat_rule l⟩), ?_⟩
    simp (maxSteps := 4000000) only [go_sem]
    refine ⟨by kernel_rfl, hK _ ?_⟩
    clear hK K
    repeat (first | refine walkL_seq ?_ | refine walkL_skip ?_ | refine walkL_block ?_ | (refine walkL_region fun K hK => ?_; simp (maxSteps := 4000000) only [go_sem]; refine hK _ ?_; clear hK K) | refine walkL_nil ?_ | refine walkL_ret ?_ | refine walkL_exit ?_ | refine blockA_here ?_ | refine blockA_other rfl ?_ | refine blockA_ret ?_ | refine blockA_normal ?_ | refine thenA_ret ?_ | refine thenA_exit ?_ | refine thenA_normal ?_)
    simp (maxSteps := 4000000) only [go_sem]
  · rw [ef] at x1
    have x5 : (List.drop 0 X).take k = ruleRows (ofPath l p) := by simpa using x1
    refine fn_walk 18 Tryz.call47 Tryz.func47 rfl (by decide) fun J => ?_
    simp (maxSteps := 4000000) only [go_sem, St.start, Tryz.ntmps47, Tryz.results47]
    repeat (first | refine walkL_seq ?_ | refine walkL_skip ?_ | refine walkL_block ?_ | (refine walkL_region fun K hK => ?_; simp (maxSteps := 4000000) only [go_sem]; refine hK _ ?_; clear hK K) | refine walkL_nil ?_ | refine walkL_ret ?_ | refine walkL_exit ?_ | refine blockA_here ?_ | refine blockA_other rfl ?_ | refine blockA_ret ?_ | refine blockA_normal ?_ | refine thenA_ret ?_ | refine thenA_exit ?_ | refine thenA_normal ?_)
    refine walkL_drawn (by kernel_rfl) (by kernel_rfl) fun K hK => ?_
    simp (maxSteps := 4000000) only [go_sem]
    refine ⟨_, .fnS (hdst := rfl) (hf := h94) (hd := rfl) (hr := .inr rfl) (hfr := rfl), ?_⟩
    simp (maxSteps := 4000000) only [go_sem]
    refine ⟨_, .inPlaceR (n := 13) (rd := [3]) (hf := h93) (hn := rfl) (hb := rfl) (hla := rfl) (ha := argG_all (by repeat (first | exact trivial | refine And.intro ?_ ?_ | exact argG_ren rfl | exact argG_deep rfl rfl))) (hx := by first | decide | simp [AV.refsAll, AV.refs, AV.refs.AV.refss]) (hrx := by first | decide | simp [AV.refsAll, AV.refs, AV.refs.AV.refss]) (hrd := by decide) (hsh := by intro n hn row hrow k hk; simp at hn; subst hn; simp at hrow; subst hrow; simp [AV.refs, AV.refs.AV.refss] at hk) (hfl := ⟨rfl, x4⟩), ?_⟩
    simp (maxSteps := 4000000) only [go_sem]
    refine ⟨by kernel_rfl, hK _ ?_⟩
    clear hK K
    repeat (first | refine walkL_seq ?_ | refine walkL_skip ?_ | refine walkL_block ?_ | (refine walkL_region fun K hK => ?_; simp (maxSteps := 4000000) only [go_sem]; refine hK _ ?_; clear hK K) | refine walkL_nil ?_ | refine walkL_ret ?_ | refine walkL_exit ?_ | refine blockA_here ?_ | refine blockA_other rfl ?_ | refine blockA_ret ?_ | refine blockA_normal ?_ | refine thenA_ret ?_ | refine thenA_exit ?_ | refine thenA_normal ?_)
    simp (maxSteps := 4000000) only [go_sem, x1, x2, x5, Nat.zero_add]
end Go.Ab
namespace Go.Ab
open Go.RowKit Go.Proofs
set_option maxHeartbeats 8000000
set_option maxRecDepth 20000
attribute [local irreducible] WalkL Walk
def pathRows (l : List Path) : List (List DV) := l.map Path.row
theorem pathRows_len (l : List Path) : (pathRows l).length = l.length := by simp [pathRows]
theorem pathRows_at {l : List Path} {i : Nat} {x : Path} (h : l[i]? = some x) : (pathRows l)[i]? = some x.row := by simp [pathRows, h]
theorem pathRows_head (l : List Path) : headIs 8 (pathRows l) = true := by cases l <;> rfl
theorem pathRows_set (l : List Path) (k : Nat) (x : Path) : (pathRows l).set k x.row = pathRows (l.set k x) := by simp [pathRows, List.map_set]
attribute [go_sem] pathRows_len pathRows_head
theorem Path.row_eq (p : Path) : p.row = [.i p.frm, .i p.to, .i p.grade, .i p.time.lo, .i p.time.hi, .i p.snow.lo, .i p.snow.hi, .sl (spanRows p.opens)] := rfl
theorem Net.cells_eq (n : Net) : n.cells = [.i n.places, .sl (pathRows n.paths)] := rfl
theorem f46 (l : List Path) (hl : l.length < 2 ^ 30) : FnS Tryz.prog 46 [.sl (pathRows l)] 56 8 (pathRows l) := by
  have h1 : l.length ≤ 549755813888 := by omega
  have h2 : 0 + l.length ≤ 549755813888 := by omega
  cases l with
  | nil =>
    have e0 : pathRows [] = [] := rfl
    have e1 : ([] : List (List DV)).isEmpty = true := rfl
    rw [e0]
    refine fnS_walk 8 Tryz.call46 Tryz.func46 rfl (by decide) fun J => ?_
    simp (maxSteps := 4000000) only [go_sem, St.start, Tryz.ntmps46, Tryz.results46]
    repeat (first | refine walkL_seq ?_ | refine walkL_skip ?_ | refine walkL_block ?_ | (refine walkL_region fun K hK => ?_; simp (maxSteps := 4000000) only [go_sem, e1]; refine hK _ ?_; clear hK K) | refine walkL_nil ?_ | refine walkL_ret ?_ | refine walkL_exit ?_ | refine blockA_here ?_ | refine blockA_other rfl ?_ | refine blockA_ret ?_ | refine blockA_normal ?_ | refine thenA_ret ?_ | refine thenA_exit ?_ | refine thenA_normal ?_)
    refine walkL_any rfl ?_ ?_
    · repeat (first | refine walkL_seq ?_ | refine walkL_skip ?_ | refine walkL_block ?_ | (refine walkL_region fun K hK => ?_; simp (maxSteps := 4000000) only [go_sem]; refine hK _ ?_; clear hK K) | refine walkL_nil ?_ | refine walkL_ret ?_ | refine walkL_exit ?_ | refine blockA_here ?_ | refine blockA_other rfl ?_ | refine blockA_ret ?_ | refine blockA_normal ?_ | refine thenA_ret ?_ | refine thenA_exit ?_ | refine thenA_normal ?_)
      simp (maxSteps := 4000000) only [go_sem]
    · repeat (first | refine walkL_seq ?_ | refine walkL_skip ?_ | refine walkL_block ?_ | (refine walkL_region fun K hK => ?_; simp (maxSteps := 4000000) only [go_sem, List.nil_append, List.length_nil]; refine hK _ ?_; clear hK K) | refine walkL_nil ?_ | refine walkL_ret ?_ | refine walkL_exit ?_ | refine blockA_here ?_ | refine blockA_other rfl ?_ | refine blockA_ret ?_ | refine blockA_normal ?_ | refine thenA_ret ?_ | refine thenA_exit ?_ | refine thenA_normal ?_)
      simp (maxSteps := 4000000) only [go_sem]
  | cons a l =>
    have hne : (pathRows (a :: l)).isEmpty = false := rfl
    obtain ⟨L, hL⟩ : ∃ L, L = a :: l := ⟨_, rfl⟩
    rw [← hL] at h1 h2 hne ⊢
    refine fnS_walk 8 Tryz.call46 Tryz.func46 rfl (by decide) fun J => ?_
    simp (maxSteps := 4000000) only [go_sem, St.start, Tryz.ntmps46, Tryz.results46]
    repeat (first | refine walkL_true rfl ?_ | refine walkL_false rfl ?_ | refine walkL_seq ?_ | refine walkL_skip ?_ | refine walkL_block ?_ | (refine walkL_region fun K hK => ?_; simp (maxSteps := 4000000) only [go_sem, hne]; refine hK _ ?_; clear hK K) | refine walkL_nil ?_ | refine walkL_ret ?_ | refine walkL_exit ?_ | refine blockA_here ?_ | refine blockA_other rfl ?_ | refine blockA_ret ?_ | refine blockA_normal ?_ | refine thenA_ret ?_ | refine thenA_exit ?_ | refine thenA_normal ?_)
    repeat (first | refine walkL_seq ?_ | refine walkL_skip ?_ | refine walkL_block ?_ | (refine walkL_region fun K hK => ?_; simp (maxSteps := 4000000) only [go_sem, h1, h2, List.nil_append, List.length_nil]; refine hK _ ?_; clear hK K) | refine walkL_nil ?_ | refine walkL_ret ?_ | refine walkL_exit ?_ | refine blockA_here ?_ | refine blockA_other rfl ?_ | refine blockA_ret ?_ | refine blockA_normal ?_ | refine thenA_ret ?_ | refine thenA_exit ?_ | refine thenA_normal ?_)
    simp (maxSteps := 4000000) only [go_sem]
def inSpans (l : List Span) (n : Int) : Bool := l.any fun s => withinB n s.lo s.hi
theorem f100 (s : Span) (n : Int) : Fn Tryz.prog 100 [.agg s.row, .ptr [.i n] 0] (.bool (withinB n s.lo s.hi)) := by
  have h := f87 n s.lo s.hi
  refine fn_walk 10 Tryz.call100 Tryz.func100 rfl (by decide) fun J => ?_
  simp (maxSteps := 4000000) only [go_sem, St.start, Tryz.ntmps100, Tryz.results100, Span.row]
  repeat (first | refine walkL_seq ?_ | refine walkL_skip ?_ | refine walkL_block ?_ | (refine walkL_region fun K hK => ?_; simp (maxSteps := 4000000) only [go_sem]; (repeat (first | (refine ⟨_, .lent (hf := h) (hd := rfl) (hr := rfl), ?_⟩; simp (maxSteps := 4000000) only [go_sem]) | (refine ⟨_, .given (hf := h) (hd := rfl) (ha := rfl), ?_⟩; simp (maxSteps := 4000000) only [go_sem]))); refine hK _ ?_; clear hK K) | refine walkL_nil ?_ | refine walkL_ret ?_ | refine walkL_exit ?_ | refine blockA_here ?_ | refine blockA_other rfl ?_ | refine blockA_ret ?_ | refine blockA_normal ?_ | refine thenA_ret ?_ | refine thenA_exit ?_ | refine thenA_normal ?_)
  simp (maxSteps := 4000000) only [go_sem]
theorem f51 (l : List Span) (n : Int) (hl : l.length < 2 ^ 30) : Fn Tryz.prog 51 [.sl (spanRows l), .i n] (.bool (inSpans l n)) := by
  have h : Fn Tryz.prog 99 [.sl (spanRows l), .fn 100 [.ptr [.i n] 0]] (.bool (inSpans l n)) := f99 l 100 [.ptr [.i n] 0] (fun s => withinB n s.lo s.hi) (fun s _ => f100 s n) (by omega)
  refine fn_walk 8 Tryz.call51 Tryz.func51 rfl (by decide) fun J => ?_
  simp (maxSteps := 4000000) only [go_sem, St.start, Tryz.ntmps51, Tryz.results51]
  repeat (first | refine walkL_seq ?_ | refine walkL_skip ?_ | refine walkL_block ?_ | (refine walkL_region fun K hK => ?_; simp (maxSteps := 4000000) only [go_sem]; (repeat (first | (refine ⟨_, .lent (hf := h) (hd := rfl) (hr := rfl), ?_⟩; simp (maxSteps := 4000000) only [go_sem]) | (refine ⟨_, .given (hf := h) (hd := rfl) (ha := rfl), ?_⟩; simp (maxSteps := 4000000) only [go_sem]))); refine hK _ ?_; clear hK K) | refine walkL_nil ?_ | refine walkL_ret ?_ | refine walkL_exit ?_ | refine blockA_here ?_ | refine blockA_other rfl ?_ | refine blockA_ret ?_ | refine blockA_normal ?_ | refine thenA_ret ?_ | refine thenA_exit ?_ | refine thenA_normal ?_)
  simp (maxSteps := 4000000) only [go_sem]
theorem f50 (opens sure : List Span) (t : Nat) (ht : t < 2 ^ 30) (ho : opens.length < 2 ^ 30) (hs : sure.length < 2 ^ 30) : Fn Tryz.prog 50 [.i t, .ptr [.sl (spanRows opens)] 0, .ptr [.sl (spanRows sure)] 0] (.bool (inSpans opens t && inSpans sure ((t / 60 : Nat) : Int))) := by
  have h1 := f51 opens t ho
  have h2 := f51 sure ((t / 60 : Nat) : Int) hs
  have w : IntKind.i64.wrap ((t : Int).tdiv 60) = ((t / 60 : Nat) : Int) := by
    rw [Int.tdiv_eq_ediv_of_nonneg (by omega), wr_small (by omega)]
    omega
  obtain ⟨a, ea⟩ : ∃ a, a = inSpans opens t := ⟨_, rfl⟩
  obtain ⟨b, eb⟩ : ∃ b, b = inSpans sure ((t / 60 : Nat) : Int) := ⟨_, rfl⟩
  rw [← ea] at h1 ⊢
  rw [← eb] at h2 ⊢
  cases a
  all_goals
    refine fn_walk 14 Tryz.call50 Tryz.func50 rfl (by decide) fun J => ?_
    simp (maxSteps := 4000000) only [go_sem, St.start, Tryz.ntmps50, Tryz.results50]
    repeat (first | refine walkL_true rfl ?_ | refine walkL_false rfl ?_ | refine walkL_seq ?_ | refine walkL_skip ?_ | refine walkL_block ?_ | (refine walkL_region fun K hK => ?_; simp (maxSteps := 4000000) only [go_sem, w]; (repeat (first | (refine ⟨_, .lent (hf := h1) (hd := rfl) (hr := rfl), ?_⟩; simp (maxSteps := 4000000) only [go_sem, w]) | (refine ⟨_, .lent (hf := h2) (hd := rfl) (hr := rfl), ?_⟩; simp (maxSteps := 4000000) only [go_sem, w]) | (refine ⟨_, .given (hf := h1) (hd := rfl) (ha := rfl), ?_⟩; simp (maxSteps := 4000000) only [go_sem, w]) | (refine ⟨_, .given (hf := h2) (hd := rfl) (ha := rfl), ?_⟩; simp (maxSteps := 4000000) only [go_sem, w]))); refine hK _ ?_; clear hK K) | refine walkL_nil ?_ | refine walkL_ret ?_ | refine walkL_exit ?_ | refine blockA_here ?_ | refine blockA_other rfl ?_ | refine blockA_ret ?_ | refine blockA_normal ?_ | refine thenA_ret ?_ | refine thenA_exit ?_ | refine thenA_normal ?_)
    simp (maxSteps := 4000000) only [go_sem]
def wrongR (m : Int) (x : Rule) : Bool := !withinB x.path 0 (m - 1) || (!withinB x.after 0 48 || !limB x.lim)
def badRules (n : Net) (l : List Rule) : Bool := decide ((l.length : Int) > 12) || l.any (wrongR n.paths.length)
theorem f88 (n : Net) (x : Rule) (hn : n.paths.length < 2 ^ 30) : Fn Tryz.prog 88 [.agg x.row, .ptr n.cells 0] (.bool (wrongR n.paths.length x)) := by
  have h1 := f87 x.path 0 ((n.paths.length : Int) - 1)
  have h2 := f87 x.after 0 48
  have h3 := f89 x.lim
  have w : IntKind.i64.wrap ((n.paths.length : Int) - 1) = (n.paths.length : Int) - 1 := wr_small (by omega)
  obtain ⟨b1, e1⟩ : ∃ b, b = withinB x.path 0 ((n.paths.length : Int) - 1) := ⟨_, rfl⟩
  obtain ⟨b2, e2⟩ : ∃ b, b = withinB x.after 0 48 := ⟨_, rfl⟩
  obtain ⟨b3, e3⟩ : ∃ b, b = limB x.lim := ⟨_, rfl⟩
  rw [wrongR, ← e1, ← e2, ← e3]
  rw [← e1] at h1
  rw [← e2] at h2
  rw [← e3] at h3
  rw [Limits.row] at h3
  cases b1 <;> cases b2
  all_goals
    refine fn_walk 25 Tryz.call88 Tryz.func88 rfl (by decide) fun J => ?_
    simp (maxSteps := 4000000) only [go_sem, St.start, Tryz.ntmps88, Tryz.results88, Rule.row, Net.cells_eq]
    repeat (first | refine walkL_true rfl ?_ | refine walkL_false rfl ?_ | refine walkL_seq ?_ | refine walkL_skip ?_ | refine walkL_block ?_ | (refine walkL_region fun K hK => ?_; simp (maxSteps := 4000000) only [go_sem, w]; (repeat (first | (refine ⟨_, .lent (hf := h1) (hd := rfl) (hr := rfl), ?_⟩; simp (maxSteps := 4000000) only [go_sem, w]) | (refine ⟨_, .lent (hf := h2) (hd := rfl) (hr := rfl), ?_⟩; simp (maxSteps := 4000000) only [go_sem, w]) | (refine ⟨_, .lent (hf := h3) (hd := rfl) (hr := rfl), ?_⟩; simp (maxSteps := 4000000) only [go_sem, w]) | (refine ⟨_, .given (hf := h1) (hd := rfl) (ha := rfl), ?_⟩; simp (maxSteps := 4000000) only [go_sem, w]) | (refine ⟨_, .given (hf := h2) (hd := rfl) (ha := rfl), ?_⟩; simp (maxSteps := 4000000) only [go_sem, w]) | (refine ⟨_, .given (hf := h3) (hd := rfl) (ha := rfl), ?_⟩; simp (maxSteps := 4000000) only [go_sem, w]))); refine hK _ ?_; clear hK K) | refine walkL_nil ?_ | refine walkL_ret ?_ | refine walkL_exit ?_ | refine blockA_here ?_ | refine blockA_other rfl ?_ | refine blockA_ret ?_ | refine blockA_normal ?_ | refine thenA_ret ?_ | refine thenA_exit ?_ | refine thenA_normal ?_)
    simp (maxSteps := 4000000) only [go_sem]
def ruledE (n : Net) (rules : List Rule) (F : List (List Hour)) (seen : List Sight) (p : Int) : Int :=
  if foreF F ≠ 0 then foreF F else if checkF n ≠ 0 then checkF n else lookF F seen (if badRules n rules then 53 else 0) (withinB p (-1) ((n.paths.length : Int) - 1))
theorem f40 (n : Net) (rules : List Rule) (F : List (List Hour)) (seen : List Sight) (p : Int) (hn : n.Small) (hr : rules.length < 2 ^ 30) (hs : ForeSmall F) (hsl : seen.length < 2 ^ 30) :
    Fn Tryz.prog 40 [.agg n.cells, .sl (ruleRows rules), .agg [.sl (scenRows F)], .sl (sightRows seen), .i p]
      (.tup [if ruledE n rules F seen p = 0 then .ptr [lookV F seen, .sl (ruleRows (ofPath rules p))] 0 else .nilptr, .i (ruledE n rules F seen p)]) := by
  have h23 := f85 F hs
  have h90 := f86 n hn
  have hnp := hn.paths
  have w : IntKind.i64.wrap ((n.paths.length : Int) - 1) = (n.paths.length : Int) - 1 := wr_small (by omega)
  rw [Net.cells_eq] at h90
  obtain ⟨fe, hfe⟩ : ∃ e, e = foreF F := ⟨_, rfl⟩
  obtain ⟨ce, hce⟩ : ∃ e, e = checkF n := ⟨_, rfl⟩
  obtain ⟨E, hE⟩ : ∃ E, E = ruledE n rules F seen p := ⟨_, rfl⟩
  rw [← hE]
  rw [← hfe] at h23
  rw [← hce] at h90
  by_cases q1 : fe = 0
  · by_cases q2 : ce = 0
    · have hE2 : E = lookF F seen (if badRules n rules then 53 else 0) (withinB p (-1) ((n.paths.length : Int) - 1)) := by
        rw [hE]; unfold ruledE; rw [← hfe, ← hce, if_neg (fun h => h q1), if_neg (fun h => h q2)]
      have b1 : (fe != 0) = false := by simp [q1]
      have b2 : (ce != 0) = false := by simp [q2]
      have h52 := f87 p (-1) ((n.paths.length : Int) - 1)
      have h92 : Fn Tryz.prog 90 [.sl (ruleRows rules), .fn 88 [.ptr n.cells 0]] (.bool (rules.any (wrongR n.paths.length))) := f90 rules 88 [.ptr n.cells 0] (wrongR n.paths.length) (fun x _ => f88 n x hnp) (by omega)
      have h65 := f47 [.sl (intRows (numsOf (possL F seen))), .sl (scenRows (scensOf (possL F seen))), .i (hd0 F).length] rules p hr
      have h39 := f59 F seen (if badRules n rules then 53 else 0) (withinB p (-1) ((n.paths.length : Int) - 1)) hs hsl
      rw [← hE2] at h39
      obtain ⟨t, ht⟩ : ∃ t, t = withinB p (-1) ((n.paths.length : Int) - 1) := ⟨_, rfl⟩
      rw [← ht] at h52 h39
      obtain ⟨a, ha⟩ : ∃ a, a = rules.any (wrongR n.paths.length) := ⟨_, rfl⟩
      rw [← ha] at h92
      have hbad : badRules n rules = (decide ((rules.length : Int) > 12) || a) := by rw [ha]; rfl
      rw [hbad] at h39
      rw [Net.cells_eq] at h92
      obtain ⟨R, hR⟩ : ∃ R, R = ofPath rules p := ⟨_, rfl⟩
      rw [← hR] at h65 ⊢
      clear hE hE2
      cases q3 : decide ((rules.length : Int) > 12) <;> cases a
      all_goals
        rw [q3] at h39
        simp only [Bool.false_or, Bool.true_or, Bool.or_false, Bool.or_true, Bool.false_eq_true, if_false, if_true] at h39
        by_cases q4 : E = 0
        · have b4 : (E != 0) = false := by simp [q4]
          rw [if_pos q4] at h39 ⊢
          rw [lookV] at h39 ⊢
          refine fn_walk 61 Tryz.call40 Tryz.func40 rfl (by decide) fun J => ?_
          simp (maxSteps := 4000000) only [go_sem, St.start, Tryz.ntmps40, Tryz.results40, Net.cells_eq]
          repeat (first | refine walkL_true rfl ?_ | refine walkL_false rfl ?_ | refine walkL_seq ?_ | refine walkL_skip ?_ | refine walkL_block ?_ | (refine walkL_region fun K hK => ?_; simp (maxSteps := 4000000) only [go_sem, b1, b2, b4, w, q3]; (repeat (first | (refine ⟨_, .lent (hf := h23) (hd := rfl) (hr := rfl), ?_⟩; simp (maxSteps := 4000000) only [go_sem, b1, b2, b4, w, q3]) | (refine ⟨_, .lent (hf := h90) (hd := rfl) (hr := rfl), ?_⟩; simp (maxSteps := 4000000) only [go_sem, b1, b2, b4, w, q3]) | (refine ⟨_, .lent (hf := h52) (hd := rfl) (hr := rfl), ?_⟩; simp (maxSteps := 4000000) only [go_sem, b1, b2, b4, w, q3]) | (refine ⟨_, .lent (hf := h92) (hd := rfl) (hr := rfl), ?_⟩; simp (maxSteps := 4000000) only [go_sem, b1, b2, b4, w, q3]) | (refine ⟨_, .lent (hf := h39) (hd := rfl) (hr := rfl), ?_⟩; simp (maxSteps := 4000000) only [go_sem, b1, b2, b4, w, q3]) | (refine ⟨_, .lent (hf := h65) (hd := rfl) (hr := rfl), ?_⟩; simp (maxSteps := 4000000) only [go_sem, b1, b2, b4, w, q3]) | (refine ⟨_, .given (hf := h23) (hd := rfl) (ha := rfl), ?_⟩; simp (maxSteps := 4000000) only [go_sem, b1, b2, b4, w, q3]) | (refine ⟨_, .given (hf := h90) (hd := rfl) (ha := rfl), ?_⟩; simp (maxSteps := 4000000) only [go_sem, b1, b2, b4, w, q3]) | (refine ⟨_, .given (hf := h52) (hd := rfl) (ha := rfl), ?_⟩; simp (maxSteps := 4000000) only [go_sem, b1, b2, b4, w, q3]) | (refine ⟨_, .given (hf := h92) (hd := rfl) (ha := rfl), ?_⟩; simp (maxSteps := 4000000) only [go_sem, b1, b2, b4, w, q3]) | (refine ⟨_, .given (hf := h39) (hd := rfl) (ha := rfl), ?_⟩; simp (maxSteps := 4000000) only [go_sem, b1, b2, b4, w, q3]) | (refine ⟨_, .given (hf := h65) (hd := rfl) (ha := rfl), ?_⟩; simp (maxSteps := 4000000) only [go_sem, b1, b2, b4, w, q3]))); refine hK _ ?_; clear hK K) | refine walkL_nil ?_ | refine walkL_ret ?_ | refine walkL_exit ?_ | refine blockA_here ?_ | refine blockA_other rfl ?_ | refine blockA_ret ?_ | refine blockA_normal ?_ | refine thenA_ret ?_ | refine thenA_exit ?_ | refine thenA_normal ?_)
          simp (maxSteps := 4000000) only [go_sem, q4]
        · have b4 : (E != 0) = true := by simpa using q4
          rw [if_neg q4] at h39 ⊢
          refine fn_walk 61 Tryz.call40 Tryz.func40 rfl (by decide) fun J => ?_
          simp (maxSteps := 4000000) only [go_sem, St.start, Tryz.ntmps40, Tryz.results40, Net.cells_eq]
          repeat (first | refine walkL_true rfl ?_ | refine walkL_false rfl ?_ | refine walkL_seq ?_ | refine walkL_skip ?_ | refine walkL_block ?_ | (refine walkL_region fun K hK => ?_; simp (maxSteps := 4000000) only [go_sem, b1, b2, b4, w, q3]; (repeat (first | (refine ⟨_, .lent (hf := h23) (hd := rfl) (hr := rfl), ?_⟩; simp (maxSteps := 4000000) only [go_sem, b1, b2, b4, w, q3]) | (refine ⟨_, .lent (hf := h90) (hd := rfl) (hr := rfl), ?_⟩; simp (maxSteps := 4000000) only [go_sem, b1, b2, b4, w, q3]) | (refine ⟨_, .lent (hf := h52) (hd := rfl) (hr := rfl), ?_⟩; simp (maxSteps := 4000000) only [go_sem, b1, b2, b4, w, q3]) | (refine ⟨_, .lent (hf := h92) (hd := rfl) (hr := rfl), ?_⟩; simp (maxSteps := 4000000) only [go_sem, b1, b2, b4, w, q3]) | (refine ⟨_, .lent (hf := h39) (hd := rfl) (hr := rfl), ?_⟩; simp (maxSteps := 4000000) only [go_sem, b1, b2, b4, w, q3]) | (refine ⟨_, .given (hf := h23) (hd := rfl) (ha := rfl), ?_⟩; simp (maxSteps := 4000000) only [go_sem, b1, b2, b4, w, q3]) | (refine ⟨_, .given (hf := h90) (hd := rfl) (ha := rfl), ?_⟩; simp (maxSteps := 4000000) only [go_sem, b1, b2, b4, w, q3]) | (refine ⟨_, .given (hf := h52) (hd := rfl) (ha := rfl), ?_⟩; simp (maxSteps := 4000000) only [go_sem, b1, b2, b4, w, q3]) | (refine ⟨_, .given (hf := h92) (hd := rfl) (ha := rfl), ?_⟩; simp (maxSteps := 4000000) only [go_sem, b1, b2, b4, w, q3]) | (refine ⟨_, .given (hf := h39) (hd := rfl) (ha := rfl), ?_⟩; simp (maxSteps := 4000000) only [go_sem, b1, b2, b4, w, q3]))); refine hK _ ?_; clear hK K) | refine walkL_nil ?_ | refine walkL_ret ?_ | refine walkL_exit ?_ | refine blockA_here ?_ | refine blockA_other rfl ?_ | refine blockA_ret ?_ | refine blockA_normal ?_ | refine thenA_ret ?_ | refine thenA_exit ?_ | refine thenA_normal ?_)
          simp (maxSteps := 4000000) only [go_sem]
    · have hE2 : E = ce := by
        rw [hE]; unfold ruledE; rw [← hfe, ← hce, if_neg (fun h => h q1), if_pos q2]
      rw [hE2, if_neg q2]
      have b1 : (fe != 0) = false := by simp [q1]
      have b2 : (ce != 0) = true := by simpa using q2
      refine fn_walk 61 Tryz.call40 Tryz.func40 rfl (by decide) fun J => ?_
      simp (maxSteps := 4000000) only [go_sem, St.start, Tryz.ntmps40, Tryz.results40, Net.cells_eq]
      repeat (first | refine walkL_true rfl ?_ | refine walkL_false rfl ?_ | refine walkL_seq ?_ | refine walkL_skip ?_ | refine walkL_block ?_ | (refine walkL_region fun K hK => ?_; simp (maxSteps := 4000000) only [go_sem, b1, b2]; (repeat (first | (refine ⟨_, .lent (hf := h23) (hd := rfl) (hr := rfl), ?_⟩; simp (maxSteps := 4000000) only [go_sem, b1, b2]) | (refine ⟨_, .lent (hf := h90) (hd := rfl) (hr := rfl), ?_⟩; simp (maxSteps := 4000000) only [go_sem, b1, b2]) | (refine ⟨_, .given (hf := h23) (hd := rfl) (ha := rfl), ?_⟩; simp (maxSteps := 4000000) only [go_sem, b1, b2]) | (refine ⟨_, .given (hf := h90) (hd := rfl) (ha := rfl), ?_⟩; simp (maxSteps := 4000000) only [go_sem, b1, b2]))); refine hK _ ?_; clear hK K) | refine walkL_nil ?_ | refine walkL_ret ?_ | refine walkL_exit ?_ | refine blockA_here ?_ | refine blockA_other rfl ?_ | refine blockA_ret ?_ | refine blockA_normal ?_ | refine thenA_ret ?_ | refine thenA_exit ?_ | refine thenA_normal ?_)
      simp (maxSteps := 4000000) only [go_sem]
  · have hE2 : E = fe := by
      rw [hE]; unfold ruledE; rw [← hfe, if_pos q1]
    rw [hE2, if_neg q1]
    have b1 : (fe != 0) = true := by simpa using q1
    refine fn_walk 61 Tryz.call40 Tryz.func40 rfl (by decide) fun J => ?_
    simp (maxSteps := 4000000) only [go_sem, St.start, Tryz.ntmps40, Tryz.results40, Net.cells_eq]
    repeat (first | refine walkL_true rfl ?_ | refine walkL_false rfl ?_ | refine walkL_seq ?_ | refine walkL_skip ?_ | refine walkL_block ?_ | (refine walkL_region fun K hK => ?_; simp (maxSteps := 4000000) only [go_sem, b1]; (repeat (first | (refine ⟨_, .lent (hf := h23) (hd := rfl) (hr := rfl), ?_⟩; simp (maxSteps := 4000000) only [go_sem, b1]) | (refine ⟨_, .given (hf := h23) (hd := rfl) (ha := rfl), ?_⟩; simp (maxSteps := 4000000) only [go_sem, b1]))); refine hK _ ?_; clear hK K) | refine walkL_nil ?_ | refine walkL_ret ?_ | refine walkL_exit ?_ | refine blockA_here ?_ | refine blockA_other rfl ?_ | refine blockA_ret ?_ | refine blockA_normal ?_ | refine thenA_ret ?_ | refine thenA_exit ?_ | refine thenA_normal ?_)
    simp (maxSteps := 4000000) only [go_sem]
end Go.Ab
namespace Go.Ab
open Go.RowKit Go.Proofs
set_option maxHeartbeats 16000000
set_option maxRecDepth 20000
attribute [local irreducible] WalkL Walk
def updI {α : Type} (f : Nat → α → α) (l : List α) (k : Nat) : List α := (l.take k).mapIdx f ++ l.drop k
theorem updI_len {α : Type} (f : Nat → α → α) (l : List α) (k : Nat) : (updI f l k).length = l.length := by simp [updI]; omega
theorem updI_zero {α : Type} (f : Nat → α → α) (l : List α) : updI f l 0 = l := by simp [updI]
theorem updI_all {α : Type} (f : Nat → α → α) (l : List α) : updI f l l.length = l.mapIdx f := by simp [updI]
theorem updI_get {α : Type} (f : Nat → α → α) {l : List α} {k : Nat} {x : α} (h : l[k]? = some x) : (updI f l k)[k]? = some x := by
  have hk := (List.getElem?_eq_some_iff.1 h).1
  have h1 : ((l.take k).mapIdx f).length = k := by simp; omega
  unfold updI
  rw [List.getElem?_append_right (by omega), h1, Nat.sub_self, drop_get h]
  rfl
theorem updI_set {α : Type} (f : Nat → α → α) {l : List α} {k : Nat} {x : α} (h : l[k]? = some x) : (updI f l k).set k (f k x) = updI f l (k + 1) := by
  have hk := (List.getElem?_eq_some_iff.1 h).1
  have h1 : ((l.take k).mapIdx f).length = k := by simp; omega
  have h2 : (l.take k).length = k := by simp; omega
  unfold updI
  rw [List.set_append_right _ _ (by omega), h1, Nat.sub_self, drop_get h, List.set_cons_zero, List.take_add_one, h, Option.toList_some, List.mapIdx_append, h2]
  simp
def safeOpens (opens sure : List Span) : List Span := (spansQ (fun t => inSpans opens t && inSpans sure ((t / 60 : Nat) : Int)) 2881).take 6
def safeP (rules : List Rule) (S : List (List Hour)) (H : Nat) (i : Nat) (p : Path) : Path :=
  if ((ofPath rules i).length : Int) == 0 then p else { p with opens := safeOpens p.opens (openS (ofPath rules i) S H) }
def safeF (n : Net) (rules : List Rule) (F : List (List Hour)) (seen : List Sight) : Net × Int :=
  if ruledE n rules F seen (-1) = 0 then (⟨n.places, n.paths.mapIdx (safeP rules (scensOf (possL F seen)) (hd0 F).length)⟩, 0) else (⟨0, []⟩, ruledE n rules F seen (-1))
theorem ruled_all {n : Net} {rules : List Rule} {F : List (List Hour)} {seen : List Sight} {p : Int} (h : ruledE n rules F seen p = 0) :
    ForeGood F ∧ sightsB (hd0 F).length seen = true ∧ possL F seen ≠ [] ∧ badNet n = false ∧ badRules n rules = false ∧ withinB p (-1) ((n.paths.length : Int) - 1) = true := by
  unfold ruledE at h
  split at h
  · rename_i h1; exact absurd h h1
  · split at h
    · rename_i h1; exact absurd h h1
    · rename_i h2
      obtain ⟨a, b, c, d, e⟩ := look_all h
      refine ⟨a, b, c, ?_, ?_, e⟩
      · cases hb : badNet n with
        | false => rfl
        | true => simp [checkF, hb] at h2
      · cases hb : badRules n rules with
        | false => rfl
        | true => rw [hb, if_pos rfl] at d; cases d
theorem rules_ok {n : Net} {rules : List Rule} (h : badRules n rules = false) : rules.length ≤ 12 ∧ ∀ x ∈ rules, (0 ≤ x.path ∧ x.path ≤ (n.paths.length : Int) - 1) ∧ (0 ≤ x.after ∧ x.after ≤ 48) ∧ limB x.lim = true := by
  unfold badRules at h
  simp only [Bool.or_eq_false_iff, decide_eq_false_iff_not] at h
  refine ⟨by have := h.1; omega, fun x hx => ?_⟩
  have h2 := h.2
  rw [List.any_eq_false] at h2
  have := h2 x hx
  unfold wrongR at this
  simp only [Bool.or_eq_true, Bool.not_eq_true', not_or, Bool.not_eq_false] at this
  exact ⟨within_iff.1 this.1, within_iff.1 this.2.1, this.2.2⟩
theorem ofPath_sub {rules : List Rule} {p : Int} : ∀ x ∈ ofPath rules p, x ∈ rules := fun x hx => (List.mem_filter.1 hx).1
theorem ofPath_len {rules : List Rule} {p : Int} : (ofPath rules p).length ≤ rules.length := List.length_filter_le _ _
theorem f15 (n : Net) (rules : List Rule) (F : List (List Hour)) (seen : List Sight) (hn : n.Small) (hr : rules.length < 2 ^ 30) (hs : ForeSmall F) (hsl : seen.length < 2 ^ 30) :
    Fn Tryz.prog 15 [.agg n.cells, .sl (ruleRows rules), .agg [.sl (scenRows F)], .sl (sightRows seen)] (.tup [.agg (safeF n rules F seen).1.cells, .i (safeF n rules F seen).2]) := by
  have h63 := f40 n rules F seen (-1) hn hr hs hsl
  unfold safeF
  by_cases h0 : ruledE n rules F seen (-1) = 0
  · obtain ⟨hg, hsi, hne, hbn, hbr, _⟩ := ruled_all h0
    obtain ⟨hrl, hro⟩ := rules_ok hbr
    rw [if_pos h0]
    rw [if_pos h0, h0, lookV_out] at h63
    have hall := scens_all (seen := seen) hg
    have hSl := scens_short (F := F) (seen := seen)
    have hH := hg.hours
    have hF := hg.scen
    have hpl := hn.paths
    obtain ⟨N, hN⟩ : ∃ N, N = numsOf (possL F seen) := ⟨_, rfl⟩
    obtain ⟨S, hS⟩ : ∃ S, S = scensOf (possL F seen) := ⟨_, rfl⟩
    obtain ⟨H, hHe⟩ : ∃ H, H = (hd0 F).length := ⟨_, rfl⟩
    rw [← hN, ← hS, ← hHe] at h63
    rw [← hS, ← hHe]
    rw [← hS] at hall hSl
    rw [← hHe] at hall hH
    have h64 := f46 n.paths hpl
    have h65 := fun p => f47 [.sl (intRows N), .sl (scenRows S), .i H] rules p hr
    have h67 := fun p => f41 N S H (ofPath rules p) (fun x hx => (hro x (ofPath_sub x hx)).2.1) hall (by omega) (by omega) (by have := ofPath_len (rules := rules) (p := p); omega)
    rw [outV] at h63
    simp only [outV] at h67
    rw [Net.cells_eq] at h63
    obtain ⟨f, hf⟩ : ∃ f, f = safeP rules S H := ⟨_, rfl⟩
    rw [← hf, Net.cells_eq]
    refine fn_walk 100 Tryz.call15 Tryz.func15 rfl (by decide) fun J => ?_
    simp (maxSteps := 4000000) only [go_sem, St.start, Tryz.ntmps15, Tryz.results15, Net.cells_eq]
    repeat (first | refine walkL_true rfl ?_ | refine walkL_false rfl ?_ | refine walkL_seq ?_ | refine walkL_skip ?_ | refine walkL_block ?_ | (refine walkL_region fun K hK => ?_; simp (maxSteps := 4000000) only [go_sem]; (repeat (first | (refine ⟨_, .lent (hf := h63) (hd := rfl) (hr := rfl), ?_⟩; simp (maxSteps := 4000000) only [go_sem]) | (refine ⟨_, .given (hf := h63) (hd := rfl) (ha := rfl), ?_⟩; simp (maxSteps := 4000000) only [go_sem]))); refine hK _ ?_; clear hK K) | refine walkL_nil ?_ | refine walkL_ret ?_ | refine walkL_exit ?_ | refine blockA_here ?_ | refine blockA_other rfl ?_ | refine blockA_ret ?_ | refine blockA_normal ?_ | refine thenA_ret ?_ | refine thenA_exit ?_ | refine thenA_normal ?_)
    refine walkL_drawn (by kernel_rfl) (by kernel_rfl) fun K hK => ?_
    simp (maxSteps := 4000000) only [go_sem]
    refine ⟨_, .fnS (hdst := rfl) (hf := h64) (hd := rfl) (hr := .inr rfl) (hfr := rfl), ?_⟩
    simp (maxSteps := 4000000) only [go_sem]
    refine ⟨by kernel_rfl, hK _ ?_⟩
    clear hK K
    repeat (first | refine walkL_true rfl ?_ | refine walkL_false rfl ?_ | refine walkL_seq ?_ | refine walkL_skip ?_ | refine walkL_block ?_ | (refine walkL_region fun K hK => ?_; simp (maxSteps := 4000000) only [go_sem]; refine hK _ ?_; clear hK K) | refine walkL_nil ?_ | refine walkL_ret ?_ | refine walkL_exit ?_ | refine blockA_here ?_ | refine blockA_other rfl ?_ | refine blockA_ret ?_ | refine blockA_normal ?_ | refine thenA_ret ?_ | refine thenA_exit ?_ | refine thenA_normal ?_)
    refine walkL_release [13] ?_
    simp (maxSteps := 4000000) only [go_sem]
    refine walkL_loopS (fun (i : Nat) => [(47, .d (.i i))]) (fun i => [(36, some (.arr 56 8 (pathRows (updI f n.paths i))))]) (fun i => i ≤ n.paths.length) (fun i => n.paths.length - i) 0 ?_ (Nat.zero_le _) ?_
    · simp (maxSteps := 4000000) only [go_sem, updI_zero]
      refine weak_of [] ?_ ?_ rfl rfl <;> simp [lessT, lessM, lessB, AV.less]
      all_goals first | done | rfl | exact ⟨rfl, rfl⟩ | rw [updI_zero]
    · intro i hi
      simp (maxSteps := 4000000) only [go_sem]
      repeat (first | refine walkL_seq ?_ | refine walkL_skip ?_ | refine walkL_block ?_ | (refine walkL_region fun K hK => ?_; simp (maxSteps := 4000000) only [go_sem]; refine hK _ ?_; clear hK K) | refine walkL_nil ?_ | refine walkL_ret ?_ | refine walkL_exit ?_ | refine blockA_here ?_ | refine blockA_other rfl ?_ | refine blockA_ret ?_ | refine blockA_normal ?_ | refine thenA_ret ?_ | refine thenA_exit ?_ | refine thenA_normal ?_)
      refine walkL_cond rfl (fun hb => ?_) (fun hb => ?_)
      · have hlt : i < n.paths.length := by simpa using hb
        have hw : IntKind.i64.wrap ((i : Int) + 1) = ((i + 1 : Nat) : Int) := by rw [wr_small (by omega)]; simp
        obtain ⟨x, hx⟩ : ∃ x, n.paths[i]? = some x := ⟨_, List.getElem?_eq_getElem hlt⟩
        have hxo := hn.opens x (List.mem_of_getElem? hx)
        have e1 := updI_set f hx
        have hLg := updI_get f hx
        have hLl := updI_len f n.paths i
        obtain ⟨L, hL⟩ : ∃ L, L = updI f n.paths i := ⟨_, rfl⟩
        rw [← hL] at e1 hLg hLl ⊢
        have hiL : i < L.length := by omega
        have g1 := pathRows_at hLg
        rw [Path.row_eq] at g1
        have c65 := h65 i
        have c67 := h67 i
        have hfx : f i x = safeP rules S H i x := by rw [hf]
        unfold safeP at hfx
        obtain ⟨R, hR⟩ : ∃ R, R = ofPath rules i := ⟨_, rfl⟩
        rw [← hR] at c65 c67 hfx
        cases q : ((R.length : Int) == 0)
        · rw [q] at hfx
          simp only [Bool.false_eq_true, if_false] at hfx
          obtain ⟨A, hA⟩ : ∃ A, A = openS R S H := ⟨_, rfl⟩
          rw [← hA] at c67 hfx
          have hAl : A.length < 2 ^ 30 := by
            have := spansQ_len (fun i => S.all fun s => keepsB alwaysB R s i) H
            rw [hA]
            unfold openS
            omega
          have c68 := f49 2881 50 [.ptr [.sl (spanRows x.opens)] 0, .ptr [.sl (spanRows A)] 0] (fun t => inSpans x.opens t && inSpans A ((t / 60 : Nat) : Int)) (fun t ht => f50 x.opens A t (by omega) hxo hAl) (by decide)
          unfold safeOpens at hfx
          obtain ⟨X, hX⟩ : ∃ X, X = spansQ (fun t => inSpans x.opens t && inSpans A ((t / 60 : Nat) : Int)) 2881 := ⟨_, rfl⟩
          rw [← hX] at c68 hfx
          have e2 : (pathRows L).set i [.i x.frm, .i x.to, .i x.grade, .i x.time.lo, .i x.time.hi, .i x.snow.lo, .i x.snow.hi, .sl (spanRows X)] = pathRows (L.set i { x with opens := X }) := pathRows_set L i { x with opens := X }
          have g2 : (pathRows (L.set i { x with opens := X }))[i]? = some [.i x.frm, .i x.to, .i x.grade, .i x.time.lo, .i x.time.hi, .i x.snow.lo, .i x.snow.hi, .sl (spanRows X)] := pathRows_at (x := { x with opens := X }) (List.getElem?_set_self hiL)
          have e3 : (pathRows (L.set i { x with opens := X })).set i [.i x.frm, .i x.to, .i x.grade, .i x.time.lo, .i x.time.hi, .i x.snow.lo, .i x.snow.hi, .sl (spanRows (X.take 6))] = pathRows (updI f n.paths (i + 1)) := by
            rw [← e1, hfx]
            have := pathRows_set (L.set i { x with opens := X }) i { x with opens := X.take 6 }
            rw [List.set_set] at this
            exact this
          have hL2 : (L.set i { x with opens := X }).length = L.length := by simp
          obtain ⟨L2, hL2e⟩ : ∃ L2, L2 = L.set i { x with opens := X } := ⟨_, rfl⟩
          rw [← hL2e] at e2 g2 e3 hL2
          have hiL2 : i < L2.length := by omega
          repeat (first | refine walkL_true rfl ?_ | refine walkL_false rfl ?_ | refine walkL_seq ?_ | refine walkL_skip ?_ | refine walkL_block ?_ | (refine walkL_region fun K hK => ?_; simp (maxSteps := 4000000) only [go_sem, g1, hiL, q]; (repeat (first | (refine ⟨_, .lent (hf := c65) (hd := rfl) (hr := rfl), ?_⟩; simp (maxSteps := 4000000) only [go_sem, g1, hiL, q]) | (refine ⟨_, .lent (hf := c67) (hd := rfl) (hr := rfl), ?_⟩; simp (maxSteps := 4000000) only [go_sem, g1, hiL, q]) | (refine ⟨_, .given (hf := c65) (hd := rfl) (ha := rfl), ?_⟩; simp (maxSteps := 4000000) only [go_sem, g1, hiL, q]) | (refine ⟨_, .given (hf := c67) (hd := rfl) (ha := rfl), ?_⟩; simp (maxSteps := 4000000) only [go_sem, g1, hiL, q]))); refine hK _ ?_; clear hK K) | refine walkL_nil ?_ | refine walkL_ret ?_ | refine walkL_exit ?_ | refine blockA_here ?_ | refine blockA_other rfl ?_ | refine blockA_ret ?_ | refine blockA_normal ?_ | refine thenA_ret ?_ | refine thenA_exit ?_ | refine thenA_normal ?_)
          refine walkL_region fun K hK => ?_
          simp (maxSteps := 4000000) only [go_sem, g1, hiL]
          refine ⟨_, .lentS (hdst := rfl) (hf := c68) (hd := rfl) (hr := by first | exact rowsFlat_int _ | exact rowsFlat_hour _ | exact rowsFlat_sight _ | exact rowsFlat_sky _ | exact rowsFlat_span _ | exact rowsFlat_bool _) (hfr := rfl), ?_⟩
          simp (maxSteps := 4000000) only [go_sem, g1, hiL, e2]
          refine hK _ ?_
          clear hK K
          have m1 : (0 : Int) ≤ min (X.length : Int) 6 := by omega
          have m2 : min (X.length : Int) 6 ≤ (X.length : Int) := by omega
          have m3 : (0 : Int) ≤ min (X.length : Int) 6 ∧ min (X.length : Int) 6 ≤ (X.length : Int) := ⟨m1, m2⟩
          have e6 : List.take (min (X.length : Int) 6).toNat (spanRows X) = spanRows (X.take 6) := by
            have : (min (X.length : Int) 6).toNat = min X.length 6 := by omega
            rw [this]
            unfold spanRows
            by_cases h6 : 6 ≤ X.length
            · rw [Nat.min_eq_right h6, List.map_take]
            · rw [Nat.min_eq_left (by omega), List.take_of_length_le (by simp), List.take_of_length_le (by omega)]
          have e7 : List.take ((min (X.length : Int) 6).toNat - 0) (List.drop 0 (spanRows X)) = spanRows (X.take 6) := by simpa using e6
          repeat (first | refine walkL_true rfl ?_ | refine walkL_false rfl ?_ | refine walkL_seq ?_ | refine walkL_skip ?_ | refine walkL_block ?_ | (refine walkL_region fun K hK => ?_; simp (maxSteps := 4000000) only [go_sem, g2, hiL2, hiL, m1, m2, m3, e6, e7, e3, hw, hL2]; refine hK _ ?_; clear hK K) | (refine walkL_drawn (by kernel_rfl) (by kernel_rfl) fun K hK => ?_; simp (maxSteps := 4000000) only [go_sem, g2, hiL2, hiL, m1, m2, m3, e6, e7, e3, hw, hL2]; refine ⟨by kernel_rfl, hK _ ?_⟩; clear hK K) | refine walkL_nil ?_ | refine walkL_ret ?_ | refine walkL_exit ?_ | refine blockA_here ?_ | refine blockA_other rfl ?_ | refine blockA_ret ?_ | refine blockA_normal ?_ | refine thenA_ret ?_ | refine thenA_exit ?_ | refine thenA_normal ?_)
          refine ⟨rfl, i + 1, ?_, hlt, by omega⟩
          refine weak_of [] ?_ ?_ rfl rfl <;> simp [lessT, lessM, lessB, AV.less]
          all_goals first | done | rfl | exact ⟨rfl, rfl⟩ | (rw [e6, e3])
        · rw [q] at hfx
          simp only [if_true] at hfx
          have c66 := f48 x.opens hxo
          have e2 : (pathRows L).set i [.i x.frm, .i x.to, .i x.grade, .i x.time.lo, .i x.time.hi, .i x.snow.lo, .i x.snow.hi, .sl (spanRows x.opens)] = pathRows (updI f n.paths (i + 1)) := by
            rw [← e1, hfx]
            exact pathRows_set L i x
          repeat (first | refine walkL_true rfl ?_ | refine walkL_false rfl ?_ | refine walkL_seq ?_ | refine walkL_skip ?_ | refine walkL_block ?_ | (refine walkL_region fun K hK => ?_; simp (maxSteps := 4000000) only [go_sem, g1, hiL, q]; (repeat (first | (refine ⟨_, .lent (hf := c65) (hd := rfl) (hr := rfl), ?_⟩; simp (maxSteps := 4000000) only [go_sem, g1, hiL, q]) | (refine ⟨_, .given (hf := c65) (hd := rfl) (ha := rfl), ?_⟩; simp (maxSteps := 4000000) only [go_sem, g1, hiL, q]))); refine hK _ ?_; clear hK K) | refine walkL_nil ?_ | refine walkL_ret ?_ | refine walkL_exit ?_ | refine blockA_here ?_ | refine blockA_other rfl ?_ | refine blockA_ret ?_ | refine blockA_normal ?_ | refine thenA_ret ?_ | refine thenA_exit ?_ | refine thenA_normal ?_)
          refine walkL_region fun K hK => ?_
          simp (maxSteps := 4000000) only [go_sem, g1, hiL]
          refine ⟨_, .lentS (hdst := rfl) (hf := c66) (hd := rfl) (hr := by first | exact rowsFlat_int _ | exact rowsFlat_hour _ | exact rowsFlat_sight _ | exact rowsFlat_sky _ | exact rowsFlat_span _ | exact rowsFlat_bool _) (hfr := rfl), ?_⟩
          simp (maxSteps := 4000000) only [go_sem, g1, hiL, e2]
          refine hK _ ?_
          clear hK K
          repeat (first | refine walkL_true rfl ?_ | refine walkL_false rfl ?_ | refine walkL_seq ?_ | refine walkL_skip ?_ | refine walkL_block ?_ | (refine walkL_region fun K hK => ?_; simp (maxSteps := 4000000) only [go_sem, hw]; refine hK _ ?_; clear hK K) | refine walkL_nil ?_ | refine walkL_ret ?_ | refine walkL_exit ?_ | refine blockA_here ?_ | refine blockA_other rfl ?_ | refine blockA_ret ?_ | refine blockA_normal ?_ | refine thenA_ret ?_ | refine thenA_exit ?_ | refine thenA_normal ?_)
          refine ⟨rfl, i + 1, ?_, hlt, by omega⟩
          refine weak_of [] ?_ ?_ rfl rfl <;> simp [lessT, lessM, lessB, AV.less]
          all_goals first | done | rfl | exact ⟨rfl, rfl⟩
      · have he : i = n.paths.length := by (have : ¬ i < n.paths.length := by simpa using hb); omega
        subst he
        rw [updI_all]
        repeat (first | refine walkL_seq ?_ | refine walkL_skip ?_ | refine walkL_block ?_ | (refine walkL_region fun K hK => ?_; simp (maxSteps := 4000000) only [go_sem]; refine hK _ ?_; clear hK K) | refine walkL_nil ?_ | refine walkL_ret ?_ | refine walkL_exit ?_ | refine blockA_here ?_ | refine blockA_other rfl ?_ | refine blockA_ret ?_ | refine blockA_normal ?_ | refine thenA_ret ?_ | refine thenA_exit ?_ | refine thenA_normal ?_)
        simp (maxSteps := 4000000) only [go_sem]
  · rw [if_neg h0]
    rw [if_neg h0] at h63
    have b0 : (ruledE n rules F seen (-1) != 0) = true := by simpa using h0
    obtain ⟨e, he⟩ : ∃ e, e = ruledE n rules F seen (-1) := ⟨_, rfl⟩
    rw [← he] at h63 b0 ⊢
    rw [Net.cells_eq] at h63
    have e0 : pathRows [] = [] := rfl
    refine fn_walk 100 Tryz.call15 Tryz.func15 rfl (by decide) fun J => ?_
    simp (maxSteps := 4000000) only [go_sem, St.start, Tryz.ntmps15, Tryz.results15, Net.cells_eq]
    repeat (first | refine walkL_true rfl ?_ | refine walkL_false rfl ?_ | refine walkL_seq ?_ | refine walkL_skip ?_ | refine walkL_block ?_ | (refine walkL_region fun K hK => ?_; simp (maxSteps := 4000000) only [go_sem, b0]; (repeat (first | (refine ⟨_, .lent (hf := h63) (hd := rfl) (hr := rfl), ?_⟩; simp (maxSteps := 4000000) only [go_sem, b0]) | (refine ⟨_, .given (hf := h63) (hd := rfl) (ha := rfl), ?_⟩; simp (maxSteps := 4000000) only [go_sem, b0]))); refine hK _ ?_; clear hK K) | refine walkL_nil ?_ | refine walkL_ret ?_ | refine walkL_exit ?_ | refine blockA_here ?_ | refine blockA_other rfl ?_ | refine blockA_ret ?_ | refine blockA_normal ?_ | refine thenA_ret ?_ | refine thenA_exit ?_ | refine thenA_normal ?_)
    simp (maxSteps := 4000000) only [go_sem, Net.cells_eq, e0]
    try rfl
end Go.Ab
namespace Go.Ab
open Go.RowKit Go.Proofs
set_option maxHeartbeats 16000000
set_option maxRecDepth 100000
attribute [local irreducible] WalkL Walk
def exL : Limits := ⟨40, 0, ⟨-5, 15⟩⟩
def exR : Rule := ⟨1, 1, exL⟩
def exSafe : Net := ⟨4, [⟨0, 1, 2, ⟨100, 120⟩, ⟨0, 0⟩, [⟨0, 2880⟩]⟩, ⟨1, 2, 3, ⟨60, 90⟩, ⟨4, 10⟩, [⟨180, 239⟩]⟩, ⟨2, 3, 2, ⟨60, 60⟩, ⟨0, 0⟩, [⟨400, 700⟩]⟩, ⟨0, 3, 2, ⟨300, 400⟩, ⟨0, 0⟩, [⟨0, 2880⟩]⟩, ⟨3, 0, 2, ⟨200, 240⟩, ⟨0, 0⟩, [⟨0, 2880⟩]⟩]⟩
theorem gap_ex : gapF exF [] exL 3 = (4, 0) := by kernel_rfl
theorem safe_ex : safeF exN [exR] exF [] = (exSafe, 0) := by kernel_rfl
theorem exF_small : ForeSmall exF := ⟨by decide, by intro l hl; revert hl l; decide⟩
theorem f9 : Fn Tryz.prog 9 [] (.bool true) := by
  have h35 := f37
  have h36 := f38
  have h14 := f26 exF [] exL 3 exF_small (by decide)
  have h37 := f15 exN [exR] exF [] ex_small (by decide) exF_small (by decide)
  rw [gap_ex] at h14
  rw [safe_ex] at h37
  have h38 := f39 180 239
  have e0 : sightRows [] = [] := rfl
  rw [e0] at h14 h37
  have e1 : exL.row = [.i 40, .i 0, .i (-5), .i 15] := rfl
  have e2 : ruleRows [exR] = [[.i 1, .i 1, .i 40, .i 0, .i (-5), .i 15]] := rfl
  rw [e1] at h14
  rw [e2] at h37
  simp only [exSafe, Net.cells, Path.row, Span.row, List.map_cons, List.map_nil] at h37
  simp only [Net.cells, exP, Party.cells] at h36
  dsimp only at h14 h37
  generalize exN.paths.map Path.row = P at h36 h37
  generalize exN.places = pl at h36 h37
  generalize scenRows exF = FF at h35 h14 h37
  refine fn_walk 69 Tryz.call9 Tryz.func9 rfl (by decide) fun J => ?_
  simp (maxSteps := 4000000) only [go_sem, St.start, Tryz.ntmps9, Tryz.results9]
  repeat (first | refine walkL_seq ?_ | refine walkL_skip ?_ | refine walkL_block ?_ | (refine walkL_region fun K hK => ?_; simp (maxSteps := 4000000) only [go_sem]; (repeat (first | (refine ⟨_, .lent (hf := h35) (hd := rfl) (hr := rfl), ?_⟩; simp (maxSteps := 4000000) only [go_sem]) | (refine ⟨_, .lent (hf := h36) (hd := rfl) (hr := rfl), ?_⟩; simp (maxSteps := 4000000) only [go_sem]) | (refine ⟨_, .lent (hf := h14) (hd := rfl) (hr := rfl), ?_⟩; simp (maxSteps := 4000000) only [go_sem]) | (refine ⟨_, .lent (hf := h37) (hd := rfl) (hr := rfl), ?_⟩; simp (maxSteps := 4000000) only [go_sem]) | (refine ⟨_, .lent (hf := h38) (hd := rfl) (hr := rfl), ?_⟩; simp (maxSteps := 4000000) only [go_sem]) | (refine ⟨_, .given (hf := h35) (hd := rfl) (ha := rfl), ?_⟩; simp (maxSteps := 4000000) only [go_sem]) | (refine ⟨_, .given (hf := h36) (hd := rfl) (ha := rfl), ?_⟩; simp (maxSteps := 4000000) only [go_sem]) | (refine ⟨_, .given (hf := h14) (hd := rfl) (ha := rfl), ?_⟩; simp (maxSteps := 4000000) only [go_sem]) | (refine ⟨_, .given (hf := h37) (hd := rfl) (ha := rfl), ?_⟩; simp (maxSteps := 4000000) only [go_sem]) | (refine ⟨_, .given (hf := h38) (hd := rfl) (ha := rfl), ?_⟩; simp (maxSteps := 4000000) only [go_sem]))); refine hK _ ?_; clear hK K) | (refine walkL_drawn (by kernel_rfl) (by kernel_rfl) fun K hK => ?_; simp (maxSteps := 4000000) only [go_sem]; (repeat (first | (refine ⟨_, .fn (hf := h35) (hd := rfl) (hr := .inl rfl), ?_⟩; simp (maxSteps := 4000000) only [go_sem]) | (refine ⟨_, .fn (hf := h36) (hd := rfl) (hr := .inl rfl), ?_⟩; simp (maxSteps := 4000000) only [go_sem]) | (refine ⟨_, .fn (hf := h14) (hd := rfl) (hr := .inl rfl), ?_⟩; simp (maxSteps := 4000000) only [go_sem]) | (refine ⟨_, .fn (hf := h37) (hd := rfl) (hr := .inl rfl), ?_⟩; simp (maxSteps := 4000000) only [go_sem]) | (refine ⟨_, .fn (hf := h38) (hd := rfl) (hr := .inl rfl), ?_⟩; simp (maxSteps := 4000000) only [go_sem]))); refine ⟨by kernel_rfl, hK _ ?_⟩; clear hK K) | refine walkL_nil ?_ | refine walkL_ret ?_ | refine walkL_exit ?_ | refine blockA_here ?_ | refine blockA_other rfl ?_ | refine blockA_ret ?_ | refine blockA_normal ?_ | refine thenA_ret ?_ | refine thenA_exit ?_ | refine thenA_normal ?_)
  simp (maxSteps := 4000000) only [go_sem]
end Go.Ab
namespace Go.Ab
open Go.RowKit Go.Proofs
set_option maxHeartbeats 8000000
set_option maxRecDepth 20000
attribute [local irreducible] WalkL Walk
theorem seen_vals (F : List (List Hour)) (seen : List Sight) (t : Bool) : (seenF F seen ≠ 0 → lookF F seen 0 t = seenF F seen) ∧ (seenF F seen = 0 → ForeGood F ∧ sightsB (hd0 F).length seen = true ∧ lookF F seen 0 t = if t then (if (possL F seen).isEmpty then 3 else 0) else 1) := by
  unfold seenF lookF
  cases hb : badF F
  · cases hq : sightsB (hd0 F).length seen
    · simp
    · simp only [Bool.false_eq_true, if_false, if_true]
      exact ⟨fun h => absurd rfl h, fun _ => ⟨fore_iff.1 hb, trivial, trivial⟩⟩
  · simp
end Go.Ab
namespace Go.Ab
open Go.RowKit Go.Proofs
set_option maxHeartbeats 4000000
set_option maxRecDepth 20000
structure RealX where
  seen : List Sight
  skies : List Sky
  lim : Limits
  len : Int
def RealX.cells (x : RealX) : List DV := [.sl (sightRows x.seen), .sl (skyRows x.skies), .i x.lim.wind, .i x.lim.rain, .i x.lim.temp.lo, .i x.lim.temp.hi, .i x.len]
structure EaseX where
  sight : Sight
  wind : Int
  rain : Int
  temp : Int
  less : Int
def EaseX.cells (y : EaseX) : List DV := [.i y.sight.hour, .i y.sight.sky.wind, .i y.sight.sky.rain, .i y.sight.sky.temp, .i y.wind, .i y.rain, .i y.temp, .i y.less]
theorem addSpan_in (A : List Span) (hA : ∀ s ∈ A, s.lo ≤ s.hi) (i x : Int) : inSpans (addSpan A i) x = (inSpans A x || (x == i)) := by
  rcases last_split A with rfl | ⟨B, s, rfl⟩
  · rw [Bool.eq_iff_iff]
    simp [addSpan, inSpans, withinB]
    omega
  · rw [addSpan_app]
    have hs := hA s (by simp)
    split
    · rename_i h
      have h : s.hi = i - 1 := by simpa using h
      have e : (s.lo ≤ x ∧ x ≤ i) ↔ ((s.lo ≤ x ∧ x ≤ s.hi) ∨ x = i) := by omega
      rw [Bool.eq_iff_iff]
      simp only [inSpans, withinB, List.any_append, List.any_cons, List.any_nil, Bool.or_false, Bool.or_eq_true, Bool.and_eq_true, decide_eq_true_eq, beq_iff_eq]
      rw [e, or_assoc]
    · rw [Bool.eq_iff_iff]
      have e : (i ≤ x ∧ x ≤ i) ↔ x = i := by omega
      simp only [inSpans, withinB, List.any_append, List.any_cons, List.any_nil, Bool.or_false, Bool.or_eq_true, Bool.and_eq_true, decide_eq_true_eq, beq_iff_eq]
      rw [e]
theorem addSpan_ok {A : List Span} {n : Nat} (hA : ∀ s ∈ A, 0 ≤ s.lo ∧ s.lo ≤ s.hi ∧ s.hi < (n : Int)) : ∀ s ∈ addSpan A (n : Int), 0 ≤ s.lo ∧ s.lo ≤ s.hi ∧ s.hi < ((n + 1 : Nat) : Int) := by
  rcases last_split A with rfl | ⟨B, s, rfl⟩
  · intro x hx
    simp only [addSpan, List.getLast?_nil, List.mem_singleton] at hx
    subst hx
    dsimp only
    omega
  · rw [addSpan_app]
    have hs := hA s (by simp)
    intro x hx
    split at hx
    · rcases List.mem_append.1 hx with hx | hx
      · have := hA x (by simp [hx]); omega
      · simp only [List.mem_singleton] at hx
        subst hx
        dsimp only
        omega
    · rcases List.mem_append.1 hx with hx | hx
      · have := hA x hx; omega
      · simp only [List.mem_singleton] at hx
        subst hx
        dsimp only
        omega
theorem spansQ_ok (q : Nat → Bool) : ∀ n, ∀ s ∈ spansQ q n, 0 ≤ s.lo ∧ s.lo ≤ s.hi ∧ s.hi < (n : Int)
  | 0 => fun s hs => by simp [spansQ] at hs
  | n + 1 => by
    have ih := spansQ_ok q n
    rw [spansQ]
    split
    · exact addSpan_ok ih
    · intro s hs
      have := ih s hs
      omega
theorem inSpans_spansQ (q : Nat → Bool) (x : Nat) : ∀ n, inSpans (spansQ q n) (x : Int) = (decide (x < n) && q x)
  | 0 => by simp [spansQ, inSpans]
  | n + 1 => by
    have ih := inSpans_spansQ q x n
    rw [spansQ]
    by_cases hx : x = n
    · subst hx
      have h0 : inSpans (spansQ q x) (x : Int) = false := by rw [ih]; simp
      split
      · rename_i hq
        rw [addSpan_in _ (fun s hs => (spansQ_ok q x s hs).2.1), hq]
        simp
      · rename_i hq
        rw [h0]
        simp [Bool.eq_false_iff.2 hq]
    · have e : decide (x < n + 1) = decide (x < n) := by
        by_cases h : x < n
        · rw [decide_eq_true h, decide_eq_true (by omega)]
        · rw [decide_eq_false h, decide_eq_false (by omega)]
      have e2 : ((x : Int) == (n : Int)) = false := by
        have : ¬ (x : Int) = (n : Int) := by omega
        simpa using this
      rw [e]
      split
      · rw [addSpan_in _ (fun s hs => (spansQ_ok q n s hs).2.1), ih, e2, Bool.or_false]
      · exact ih
theorem we5_iff {F : List (List Hour)} {seen : List Sight} {m : List Sky} : weB F seen m = true ↔
    m.length = (hd0 F).length ∧ (∀ s ∈ seen, skyAt m s.hour.toNat = s.sky) ∧ ∃ l ∈ F, agreesB seen l = true ∧ ∀ j < m.length, insideB (skyAt m j) (hourAt l (j : Int)) = true := by
  unfold weB seenEq
  rw [Bool.and_eq_true, Bool.and_eq_true, beq_iff_eq, List.all_eq_true, List.any_eq_true]
  constructor
  · rintro ⟨h1, h2, k, hk, hin⟩
    obtain ⟨i, hi⟩ := List.getElem?_of_mem hk
    obtain ⟨_, l, h3, h4, h5, _⟩ := nums_get hi
    rw [h4] at hin
    exact ⟨by omega, fun s hs => skyB_iff.1 (h2 s hs), l, List.mem_of_getElem? h3, h5, (inTo_iff _ _ _).1 hin⟩
  · rintro ⟨h1, h2, l, hl, ha, hin⟩
    refine ⟨by omega, fun s hs => skyB_iff.2 (h2 s hs), ?_⟩
    obtain ⟨i, hi⟩ := List.getElem?_of_mem hl
    have key : ∀ (F : List (List Hour)) (j i : Nat), F[i]? = some l → (j + i, seenHours seen l) ∈ possFrom seen F j := by
      intro F
      induction F with
      | nil => intro j i h; simp at h
      | cons x F ih =>
        intro j i h
        rw [possFrom]
        cases i with
        | zero =>
          simp at h
          subst h
          rw [if_pos ha]
          simp
        | succ i =>
          have := ih (j + 1) i (by simpa using h)
          rw [show j + 1 + i = j + (i + 1) by omega] at this
          split
          · exact List.mem_cons_of_mem _ this
          · exact this
    have hm := key F 0 i hi
    rw [Nat.zero_add] at hm
    refine ⟨(i : Int), List.mem_map.2 ⟨_, hm, rfl⟩, ?_⟩
    have : scenAt F (i : Int) = l := by simp [scenAt, hi]
    rw [this]
    exact (inTo_iff _ _ _).2 hin
theorem scens5_mem {F : List (List Hour)} {seen : List Sight} {l' : List Hour} : l' ∈ scensOf (possL F seen) ↔ ∃ l ∈ F, agreesB seen l = true ∧ l' = seenHours seen l := by
  unfold scensOf possL
  generalize hj : 0 = j
  clear hj
  induction F generalizing j with
  | nil => simp [possFrom]
  | cons x F ih =>
    rw [possFrom]
    split
    · rename_i h
      rw [List.map_cons, List.mem_cons, ih]
      constructor
      · rintro (rfl | ⟨l, h1, h2⟩)
        · exact ⟨x, by simp, h, rfl⟩
        · exact ⟨l, by simp [h1], h2⟩
      · rintro ⟨l, h1, h2, h3⟩
        rcases List.mem_cons.1 h1 with rfl | h1
        · exact Or.inl h3
        · exact Or.inr ⟨l, h1, h2, h3⟩
    · rename_i h
      rw [ih]
      constructor
      · rintro ⟨l, h1, h2⟩
        exact ⟨l, by simp [h1], h2⟩
      · rintro ⟨l, h1, h2, h3⟩
        rcases List.mem_cons.1 h1 with rfl | h1
        · exact absurd h2 h
        · exact ⟨l, h1, h2, h3⟩
theorem sight5_range {F : List (List Hour)} {seen : List Sight} (hg : ForeGood F) (hsi : sightsB (hd0 F).length seen = true) {l : List Hour} (hl : l ∈ F) : ∀ s ∈ seen, 0 ≤ s.hour ∧ s.hour.toNat < l.length := by
  intro s hs
  have h1 := (sights_spec hsi).1 s hs
  have h2 := hg.len l hl
  omega
theorem we_in {F : List (List Hour)} {seen : List Sight} (hg : ForeGood F) (hsi : sightsB (hd0 F).length seen = true) {m : List Sky} (h : weB F seen m = true) :
    m.length = (hd0 F).length ∧ ∃ s ∈ scensOf (possL F seen), s.length = m.length ∧ ∀ j < m.length, insideB (skyAt m j) (hourAt s (j : Int)) = true := by
  obtain ⟨h1, h2, l, hl, ha, hin⟩ := we5_iff.1 h
  refine ⟨h1, seenHours seen l, scens5_mem.2 ⟨l, hl, ha, rfl⟩, by rw [seenHours_len, hg.len l hl, h1], fun j hj => ?_⟩
  have hsa := seenHours_at (seen := seen) (l := l) j (sight5_range hg hsi hl) (sights_spec hsi).2.1
  by_cases hex : ∃ s ∈ seen, s.hour = (j : Int)
  · obtain ⟨s, hs, hj2⟩ := hex
    rw [hsa.1 s hs hj2]
    have := h2 s hs
    rw [hj2, Int.toNat_natCast] at this
    rw [this]
    exact inside_point _
  · rw [hsa.2 (fun s hs he => hex ⟨s, hs, he⟩)]
    exact hin j hj
theorem inside5_iff {s : Sky} {h : Hour} : insideB s h = true ↔ (h.wind.lo ≤ s.wind ∧ s.wind ≤ h.wind.hi) ∧ (h.rain.lo ≤ s.rain ∧ s.rain ≤ h.rain.hi) ∧ (h.temp.lo ≤ s.temp ∧ s.temp ≤ h.temp.hi) := by
  simp [insideB, withinB]
theorem kept_iff {s : Sky} {l : Limits} : keptB s l = true ↔ s.wind ≤ l.wind ∧ s.rain ≤ l.rain ∧ l.temp.lo ≤ s.temp ∧ s.temp ≤ l.temp.hi := by simp [keptB, withinB]
theorem always_iff {l : Limits} {h : Hour} : alwaysB l h = true ↔ h.wind.hi ≤ l.wind ∧ h.rain.hi ≤ l.rain ∧ l.temp.lo ≤ h.temp.lo ∧ h.temp.hi ≤ l.temp.hi := by simp [alwaysB]
theorem ever_iff {l : Limits} {h : Hour} : everB l h = true ↔ h.wind.lo ≤ l.wind ∧ h.rain.lo ≤ l.rain ∧ max l.temp.lo h.temp.lo ≤ min l.temp.hi h.temp.hi := by simp [everB]
theorem always_kept {x : Sky} {l : Limits} {h : Hour} (hi : insideB x h = true) (ha : alwaysB l h = true) : keptB x l = true := by
  rw [inside5_iff] at hi
  rw [always_iff] at ha
  rw [kept_iff]
  omega
theorem kept_ever {x : Sky} {l : Limits} {h : Hour} (hi : insideB x h = true) (hk : keptB x l = true) : everB l h = true := by
  rw [inside5_iff] at hi
  rw [kept_iff] at hk
  rw [ever_iff]
  omega
def IsBegin (l : List Bool) (n h : Nat) : Prop := ∀ k, h ≤ k → k < h + n → l[k]? = some true
theorem begins_from {n : Nat} (hn : 1 ≤ n) (L : List Bool) : ∀ (b : List Bool) (i run : Nat), L.drop i = b → run < n → run ≤ i → (∀ k, i - run ≤ k → k < i → L[k]? = some true) → (run < i → L[i - run - 1]? = some false) → (∀ h, h + n ≤ i → ¬ IsBegin L n h) →
    (beginsFrom (n : Int) b i run = -1 ∧ ∀ h, ¬ IsBegin L n h) ∨ ∃ r : Nat, beginsFrom (n : Int) b i run = r ∧ IsBegin L n r ∧ ∀ h < r, ¬ IsBegin L n h
  | [], i, run, hd, h1, h2, h3, h4, h5 => by
    refine .inl ⟨rfl, fun h hb => ?_⟩
    have hl : L.length ≤ i := by
      have := congrArg List.length hd
      simp at this
      omega
    have := hb (h + n - 1) (by omega) (by omega)
    have : h + n - 1 < L.length := (List.getElem?_eq_some_iff.1 this).1
    exact h5 h (by omega) hb
  | x :: b, i, run, hd, h1, h2, h3, h4, h5 => by
    have hx : L[i]? = some x := by
      have := congrArg (·[0]?) hd
      simpa using this
    have hd' : L.drop (i + 1) = b := by
      have := congrArg List.tail hd
      simpa using this
    rw [beginsFrom]
    cases x
    · simp only [Bool.false_eq_true, if_false]
      rw [if_neg (by omega)]
      refine begins_from hn L b (i + 1) 0 hd' (by omega) (by omega) (fun k _ _ => by omega) (fun _ => by simpa using hx) ?_
      intro h hh hb
      by_cases hc : h + n ≤ i
      · exact h5 h hc hb
      · have := hb i (by omega) (by omega)
        rw [hx] at this
        cases this
    · simp only [if_true]
      by_cases he : (run : Int) + 1 = n
      · rw [if_pos he]
        refine .inr ⟨i - run, by omega, fun k hk1 hk2 => ?_, fun h hh => h5 h (by omega)⟩
        by_cases hk : k = i
        · rw [hk]; exact hx
        · exact h3 k hk1 (by omega)
      · rw [if_neg he]
        have := begins_from hn L b (i + 1) (run + 1) hd' (by omega) (by omega) (fun k hk1 hk2 => by
          by_cases hk : k = i
          · rw [hk]; exact hx
          · exact h3 k (by omega) (by omega)) (fun hlt => by
            have := h4 (by omega)
            rw [show i + 1 - (run + 1) - 1 = i - run - 1 by omega]
            exact this) ?_
        · simpa using this
        · intro h hh hb
          by_cases hc : h + n ≤ i
          · exact h5 h hc hb
          · by_cases hr : run < i
            · have e := hb (i - run - 1) (by omega) (by omega)
              rw [h4 hr] at e
              cases e
            · omega
theorem begins_spec {n : Nat} (hn : 1 ≤ n) (l : List Bool) : (beginsF l n = -1 ∧ ∀ h, ¬ IsBegin l n h) ∨ ∃ r : Nat, beginsF l n = r ∧ IsBegin l n r ∧ ∀ h < r, ¬ IsBegin l n h := by
  have := begins_from hn l l 0 0 rfl (by omega) (by omega) (fun k _ h => by omega) (fun h => by omega) (fun h hh => by omega)
  exact this
theorem begins_of {n : Nat} (hn : 1 ≤ n) {l : List Bool} {h : Nat} (hb : IsBegin l n h) : 0 ≤ beginsF l n ∧ beginsF l n ≤ h := by
  rcases begins_spec hn l with ⟨_, h2⟩ | ⟨r, h1, h2, h3⟩
  · exact absurd hb (h2 h)
  · rw [h1]
    refine ⟨by omega, ?_⟩
    by_cases hc : h < r
    · exact absurd hb (h3 h hc)
    · omega
theorem begins_is {n : Nat} (hn : 1 ≤ n) {l : List Bool} (h : 0 ≤ beginsF l n) : IsBegin l n (beginsF l n).toNat := by
  rcases begins_spec hn l with ⟨h1, _⟩ | ⟨r, h1, h2, h3⟩
  · omega
  · rw [h1]; simpa using h2
theorem begins_end {n : Nat} (hn : 1 ≤ n) {l : List Bool} (h : 0 ≤ beginsF l n) : beginsF l n + n ≤ l.length := by
  have := begins_is hn h ((beginsF l n).toNat + n - 1) (by omega) (by omega)
  have := (List.getElem?_eq_some_iff.1 this).1
  omega
def LeB (A B : List Bool) : Prop := ∀ k : Nat, A[k]? = some true → B[k]? = some true
theorem LeB.drop {A B : List Bool} (h : LeB A B) (k : Nat) : LeB (A.drop k) (B.drop k) := fun i hi => by
  rw [List.getElem?_drop] at hi ⊢
  exact h _ hi
theorem begins_mono {n : Nat} (hn : 1 ≤ n) {A B : List Bool} (h : LeB A B) (hA : 0 ≤ beginsF A n) : 0 ≤ beginsF B n ∧ beginsF B n ≤ beginsF A n := by
  have := begins_of hn (l := B) (h := (beginsF A n).toNat) (fun k h1 h2 => h k (begins_is hn hA k h1 h2))
  omega
theorem gapAt_mono {n : Nat} (hn : 1 ≤ n) {A B : List Bool} (h : LeB A B) (hl : A.length = B.length) {k : Nat} (hk : k ≤ A.length) : gapAt B n k ≤ gapAt A n k := by
  unfold gapAt
  by_cases hA : 0 ≤ beginsF (A.drop k) n
  · have := begins_mono hn (h.drop k) hA
    rw [if_pos (show decide (beginsF (A.drop k) n ≥ 0) = true by simpa using hA), if_pos (show decide (beginsF (B.drop k) n ≥ 0) = true by simpa using this.1)]
    omega
  · rw [if_neg (show ¬ decide (beginsF (A.drop k) n ≥ 0) = true by simpa using hA)]
    by_cases hB : 0 ≤ beginsF (B.drop k) n
    · have := begins_end hn hB
      rw [List.length_drop] at this
      rw [if_pos (show decide (beginsF (B.drop k) n ≥ 0) = true by simpa using hB)]
      omega
    · rw [if_neg (show ¬ decide (beginsF (B.drop k) n ≥ 0) = true by simpa using hB)]
      omega
theorem gapTo_le {b : List Bool} {n : Int} {G : Int} : ∀ (k : Nat) (g : Int), gapTo b n k g ≤ G ↔ g ≤ G ∧ ∀ j < k, gapAt b n j ≤ G
  | 0, g => by simp [gapTo]
  | k + 1, g => by
    rw [gapTo, Int.max_le, gapTo_le k g]
    constructor
    · rintro ⟨⟨h1, h2⟩, h3⟩
      refine ⟨h1, fun j hj => ?_⟩
      rcases Nat.lt_succ_iff_lt_or_eq.1 hj with h | rfl
      · exact h2 j h
      · exact h3
    · rintro ⟨h1, h2⟩
      exact ⟨⟨h1, fun j hj => h2 j (by omega)⟩, h2 k (by omega)⟩
theorem gapS_fold {l : Limits} {n : Int} {G : Int} : ∀ (S : List (List Hour)) (g : Int), S.foldl (fun g s => gapTo (s.map (alwaysB l)) n s.length g) g ≤ G ↔ g ≤ G ∧ ∀ s ∈ S, ∀ j < s.length, gapAt (s.map (alwaysB l)) n j ≤ G
  | [], g => by simp
  | s :: S, g => by
    rw [List.foldl_cons, gapS_fold S, gapTo_le]
    simp only [List.mem_cons, forall_eq_or_imp, and_assoc]
theorem gapS_le {l : Limits} {n : Int} {G : Int} {S : List (List Hour)} : gapS l n S ≤ G ↔ 0 ≤ G ∧ ∀ s ∈ S, ∀ j < s.length, gapAt (s.map (alwaysB l)) n j ≤ G := gapS_fold S 0
theorem winFirst_le {l : Limits} {n G : Int} : ∀ (S : List (List Hour)) (H : Int), G ≤ winFirst l n S H ↔ G ≤ H ∧ ∀ s ∈ S, 0 ≤ beginsF (s.map (everB l)) n → G ≤ beginsF (s.map (everB l)) n
  | [], H => by simp [winFirst]
  | s :: S, H => by
    have ih := winFirst_le (l := l) (n := n) (G := G) S
    unfold winFirst at ih ⊢
    rw [List.foldl_cons, ih]
    simp only [List.mem_cons, forall_eq_or_imp]
    by_cases h : 0 ≤ beginsF (s.map (everB l)) n
    · rw [if_pos (by simpa using h), Int.le_min]
      constructor
      · rintro ⟨⟨h1, h2⟩, h3⟩; exact ⟨h1, fun _ => h2, h3⟩
      · rintro ⟨h1, h2, h3⟩; exact ⟨⟨h1, h2 h⟩, h3⟩
    · rw [if_neg (by simpa using h)]
      constructor
      · rintro ⟨h1, h3⟩; exact ⟨h1, fun hc => absurd hc h, h3⟩
      · rintro ⟨h1, _, h3⟩; exact ⟨h1, h3⟩
theorem winLast_fold {l : Limits} {n G : Int} : ∀ (S : List (List Hour)) (a : Int), S.foldl (fun a s => max a (beginsF (s.map (alwaysB l)) n)) a ≤ G ↔ a ≤ G ∧ ∀ s ∈ S, beginsF (s.map (alwaysB l)) n ≤ G
  | [], a => by simp
  | s :: S, a => by
    rw [List.foldl_cons, winLast_fold S, Int.max_le]
    simp only [List.mem_cons, forall_eq_or_imp, and_assoc]
theorem winLast_le {l : Limits} {n G : Int} {S : List (List Hour)} : winLast l n S ≤ G ↔ -1 ≤ G ∧ ∀ s ∈ S, beginsF (s.map (alwaysB l)) n ≤ G := winLast_fold S _
def keptL (m : List Sky) (l : Limits) : List Bool := m.map fun x => keptB x l
theorem map_hour {s : List Hour} {q : Hour → Bool} {k : Nat} (hk : k < s.length) : (s.map q)[k]? = some (q (hourAt s (k : Int))) := by
  rw [List.getElem?_map]
  have := hourAt_get (l := s) (i := (k : Int)) ⟨by omega, by omega⟩
  rw [Int.toNat_natCast] at this
  rw [this]
  rfl
theorem keptL_at {m : List Sky} {l : Limits} {k : Nat} (hk : k < m.length) : (keptL m l)[k]? = some (keptB (skyAt m k) l) := by
  rw [keptL, List.getElem?_map, skyAt_get hk]
  rfl
theorem kept_between {m : List Sky} {l : Limits} {s : List Hour} (hl : s.length = m.length) (hin : ∀ j < m.length, insideB (skyAt m j) (hourAt s (j : Int)) = true) :
    LeB (s.map (alwaysB l)) (keptL m l) ∧ LeB (keptL m l) (s.map (everB l)) := by
  constructor
  · intro k hk
    have hlt : k < s.length := by have := (List.getElem?_eq_some_iff.1 hk).1; simpa using this
    rw [map_hour hlt] at hk
    rw [keptL_at (by omega)]
    rw [always_kept (hin k (by omega)) (by simpa using hk)]
  · intro k hk
    have hlt : k < m.length := by have := (List.getElem?_eq_some_iff.1 hk).1; simpa [keptL] using this
    rw [keptL_at hlt] at hk
    rw [map_hour (by omega), kept_ever (hin k hlt) (by simpa using hk)]
theorem comes {S : List (List Hour)} {m : List Sky} {l : Limits} {n : Nat} (hn : 1 ≤ n) {s : List Hour} (hs : s ∈ S) (hl : s.length = m.length) (hin : ∀ j < m.length, insideB (skyAt m j) (hourAt s (j : Int)) = true) :
    (0 ≤ beginsF (keptL m l) n → 0 ≤ winFirst l n S m.length ∧ winFirst l n S m.length ≤ beginsF (keptL m l) n ∧ winFirst l n S m.length < m.length) ∧
    (winNever l n S = false → 0 ≤ beginsF (keptL m l) n ∧ beginsF (keptL m l) n ≤ winLast l n S ∧ winFirst l n S m.length ≤ winLast l n S) ∧
    ∀ k < m.length, gapAt (keptL m l) n k ≤ gapS l n S := by
  obtain ⟨hA, hE⟩ := kept_between (l := l) hl hin
  have hf := (winFirst_le S _).1 (Int.le_refl (winFirst l (n : Int) S m.length))
  have hla := winLast_le.1 (Int.le_refl (winLast l (n : Int) S))
  have hga := gapS_le.1 (Int.le_refl (gapS l (n : Int) S))
  refine ⟨fun hb => ?_, fun hnv => ?_, fun k hk => ?_⟩
  · have h1 := begins_mono hn hE hb
    have h2 := hf.2 s hs h1.1
    have h3 := begins_end hn hb
    have h4 : (keptL m l).length = m.length := by simp [keptL]
    refine ⟨(winFirst_le S _).2 ⟨by omega, fun _ _ h => h⟩, by omega, by omega⟩
  · have hs0 : 0 ≤ beginsF (s.map (alwaysB l)) n := by
      unfold winNever at hnv
      have := List.any_eq_false.1 hnv s hs
      simpa using this
    have h1 := begins_mono hn hA hs0
    have h2 := hla.2 s hs
    have h3 := begins_mono hn hE h1.1
    have h4 := hf.2 s hs h3.1
    exact ⟨h1.1, by omega, by omega⟩
  · have h1 := hga.2 s hs k (by omega)
    have h2 := gapAt_mono hn hA (by simp [keptL, hl]) (k := k) (by rw [List.length_map]; omega)
    omega
end Go.Ab
namespace Go.Ab
open Go.RowKit Go.Proofs
set_option maxHeartbeats 4000000
set_option maxRecDepth 20000
def widerL (l : Limits) (wind rain temp : Int) : Limits := ⟨min 200 (l.wind + wind), min 100 (l.rain + rain), ⟨max (-50) (l.temp.lo - temp), min 50 (l.temp.hi + temp)⟩⟩
theorem wider_lim {l : Limits} {a b c : Int} (hl : limB l = true) (ha : 0 ≤ a) (hb : 0 ≤ b) (hc : 0 ≤ c) : limB (widerL l a b c) = true := by
  rw [lim_iff] at *
  unfold widerL
  dsimp only
  omega
theorem wider_always {l : Limits} {a b c : Int} (hl : limB l = true) (ha : 0 ≤ a) (hb : 0 ≤ b) (hc : 0 ≤ c) {h : Hour} (hh : alwaysB l h = true) : alwaysB (widerL l a b c) h = true := by
  rw [lim_iff] at hl
  rw [always_iff] at *
  unfold widerL
  dsimp only
  omega
def withinS (A B : List Span) (H : Nat) : Bool := (List.range H).all fun h => !(inSpans A (h : Int)) || inSpans B (h : Int)
theorem withinS_iff {A B : List Span} {H : Nat} : withinS A B H = true ↔ ∀ h < H, inSpans A (h : Int) = true → inSpans B (h : Int) = true := by
  unfold withinS
  rw [List.all_eq_true]
  constructor
  · intro h i hi ha
    have := h i (by simpa using hi)
    rw [ha] at this
    simpa using this
  · intro h i hi
    have hi : i < H := by simpa using hi
    cases ha : inSpans A (i : Int)
    · rfl
    · rw [h i hi ha]; rfl
end Go.Ab
namespace Go.Ab
open Go.RowKit Go.Proofs
set_option maxHeartbeats 4000000
set_option maxRecDepth 20000
theorem limF_fold {P : Limits → Prop} (hP : ∀ a l, P (andL a l) ↔ P a ∧ P l) (b h : Int) : ∀ (rules : List Rule) (a : Limits),
    P (rules.foldl (fun l x => if decide (h - x.after ≤ b) then andL l x.lim else l) a) ↔ P a ∧ ∀ r ∈ rules, h - r.after ≤ b → P r.lim
  | [], a => by simp
  | r :: rules, a => by
    rw [List.foldl_cons, limF_fold hP b h rules]
    simp only [List.mem_cons, forall_eq_or_imp]
    by_cases hr : h - r.after ≤ b
    · rw [if_pos (by simpa using hr), hP]
      constructor
      · rintro ⟨⟨h1, h2⟩, h3⟩; exact ⟨h1, fun _ => h2, h3⟩
      · rintro ⟨h1, h2, h3⟩; exact ⟨⟨h1, h2 hr⟩, h3⟩
    · rw [if_neg (by simpa using hr)]
      constructor
      · rintro ⟨h1, h3⟩; exact ⟨h1, fun hc => absurd hc hr, h3⟩
      · rintro ⟨h1, _, h3⟩; exact ⟨h1, h3⟩
theorem limF_iff {P : Limits → Prop} (hP : ∀ a l, P (andL a l) ↔ P a ∧ P l) (rules : List Rule) (b h : Int) : P (limF rules b h) ↔ P wideL ∧ ∀ r ∈ rules, h - r.after ≤ b → P r.lim := limF_fold hP b h rules wideL
theorem kept_and {x : Sky} (a l : Limits) : keptB x (andL a l) = true ↔ keptB x a = true ∧ keptB x l = true := by
  rw [kept_iff, kept_iff, kept_iff]
  unfold andL
  dsimp only
  omega
theorem always_and {x : Hour} (a l : Limits) : alwaysB (andL a l) x = true ↔ alwaysB a x = true ∧ alwaysB l x = true := by
  rw [always_iff, always_iff, always_iff]
  unfold andL
  dsimp only
  omega
theorem keepsB_iff {kf : Limits → Hour → Bool} {rules : List Rule} {s : List Hour} {h : Nat} : keepsB kf rules s h = true ↔ ∀ b, b ≤ h → kf (limF rules (b : Int) (h : Int)) (hourAt s (b : Int)) = true := by
  unfold keepsB
  rw [List.all_eq_true]
  exact ⟨fun hh b hb => hh b (by simpa using Nat.lt_succ_of_le hb), fun hh b hb => hh b (by have := List.mem_range.1 hb; omega)⟩
def isOpenF (rules : List Rule) (m : List Sky) (p : Int) (h : Nat) : Bool :=
  rules.all fun r => !(r.path == p) || (List.range (h + 1)).all fun b => !(decide ((h : Int) - r.after ≤ (b : Int))) || keptB (skyAt m b) r.lim
theorem isOpen_iff {rules : List Rule} {m : List Sky} {p : Int} {h : Nat} : isOpenF rules m p h = true ↔ ∀ r ∈ ofPath rules p, ∀ b, b ≤ h → (h : Int) - r.after ≤ (b : Int) → keptB (skyAt m b) r.lim = true := by
  unfold isOpenF ofPath
  rw [List.all_eq_true]
  constructor
  · intro hh r hr b hb hab
    obtain ⟨hr1, hr2⟩ := List.mem_filter.1 hr
    have := hh r hr1
    rw [hr2] at this
    have := List.all_eq_true.1 (show (List.range (h + 1)).all (fun b => !(decide ((h : Int) - r.after ≤ (b : Int))) || keptB (skyAt m b) r.lim) = true by simpa using this) b (by simpa using Nat.lt_succ_of_le hb)
    rw [decide_eq_true hab] at this
    simpa using this
  · intro hh r hr
    cases hp : (r.path == p)
    · rfl
    · have hr' : r ∈ rules.filter (fun r => r.path == p) := List.mem_filter.2 ⟨hr, hp⟩
      simp only [Bool.not_true, Bool.false_or, List.all_eq_true]
      intro b hb
      have hb : b ≤ h := by have := List.mem_range.1 hb; omega
      by_cases hab : (h : Int) - r.after ≤ (b : Int)
      · rw [hh r hr' b hb hab]; simp
      · rw [decide_eq_false hab]; rfl
theorem open_mid {rules : List Rule} {m : List Sky} {s : List Hour} {p : Int} (hin : ∀ j < m.length, insideB (skyAt m j) (hourAt s (j : Int)) = true) (hw : ∀ j < m.length, keptB (skyAt m j) wideL = true) {h : Nat} (hh : h < m.length) :
    (keepsB alwaysB (ofPath rules p) s h = true → isOpenF rules m p h = true) ∧ (isOpenF rules m p h = true → keepsB everB (ofPath rules p) s h = true) := by
  rw [keepsB_iff, keepsB_iff, isOpen_iff]
  constructor
  · intro ha r hr b hb hab
    have h1 := always_kept (hin b (by omega)) (ha b hb)
    exact ((limF_iff (P := fun l => keptB (skyAt m b) l = true) kept_and _ _ _).1 h1).2 r hr hab
  · intro ha b hb
    refine kept_ever (hin b (by omega)) ?_
    exact (limF_iff (P := fun l => keptB (skyAt m b) l = true) kept_and _ _ _).2 ⟨hw b (by omega), fun r hr hab => ha r hr b hb hab⟩
theorem we_wide {F : List (List Hour)} {seen : List Sight} (hg : ForeGood F) {m : List Sky} (h : weB F seen m = true) : ∀ j < m.length, keptB (skyAt m j) wideL = true := by
  obtain ⟨h1, _, l, hl, _, hin⟩ := we5_iff.1 h
  intro j hj
  have hlen := hg.len l hl
  have hh := hg.hour l hl _ (List.mem_of_getElem? (hourAt_get (i := (j : Int)) ⟨by omega, by omega⟩))
  have hi := inside5_iff.1 (hin j hj)
  unfold hourB at hh
  rw [Bool.and_eq_true, Bool.and_eq_true, ordered_iff, ordered_iff, ordered_iff] at hh
  rw [kept_iff]
  unfold wideL
  dsimp only
  omega
theorem safe_in {opens sure : List Span} {t : Nat} (h : inSpans (safeOpens opens sure) (t : Int) = true) : inSpans opens (t : Int) = true ∧ inSpans sure ((t / 60 : Nat) : Int) = true := by
  have h2 : inSpans (spansQ (fun t => inSpans opens t && inSpans sure ((t / 60 : Nat) : Int)) 2881) (t : Int) = true := by
    unfold safeOpens at h
    unfold inSpans at h ⊢
    rw [List.any_eq_true] at h ⊢
    obtain ⟨x, hx, hb⟩ := h
    exact ⟨x, List.mem_of_mem_take hx, hb⟩
  rw [inSpans_spansQ, Bool.and_eq_true, Bool.and_eq_true] at h2
  exact h2.2
theorem closed_hour {F : List (List Hour)} {seen : List Sight} (hg : ForeGood F) (hsi : sightsB (hd0 F).length seen = true) {m : List Sky} (hwe : weB F seen m = true) (rules : List Rule) (p : Int) {h : Nat} (hh : h < m.length) :
    (inSpans (openS (ofPath rules p) (scensOf (possL F seen)) (hd0 F).length) (h : Int) = true → isOpenF rules m p h = true) ∧
    (isOpenF rules m p h = true → inSpans (openM (ofPath rules p) (scensOf (possL F seen)) (hd0 F).length) (h : Int) = true) := by
  obtain ⟨hl, s, hs, hsl, hin⟩ := we_in hg hsi hwe
  have hm := open_mid (rules := rules) (p := p) hin (we_wide hg hwe) hh
  unfold openS openM
  rw [inSpans_spansQ, inSpans_spansQ, Bool.and_eq_true, Bool.and_eq_true, List.all_eq_true, List.any_eq_true]
  exact ⟨fun ha => hm.1 (ha.2 s hs), fun ha => ⟨decide_eq_true (by omega), s, hs, hm.2 ha⟩⟩
def easeR (wind rain temp less : Int) (r : Rule) : Rule := ⟨r.path, max 0 (r.after - less), widerL r.lim wind rain temp⟩
theorem ease_ok {n : Net} {rules : List Rule} {a b c d : Int} (h : badRules n rules = false) (ha : 0 ≤ a) (hb : 0 ≤ b) (hc : 0 ≤ c) (hd : 0 ≤ d) : badRules n (rules.map (easeR a b c d)) = false := by
  obtain ⟨h1, h2⟩ := rules_ok h
  unfold badRules
  rw [Bool.or_eq_false_iff]
  refine ⟨by rw [List.length_map]; exact decide_eq_false (by omega), List.any_eq_false.2 fun x hx => ?_⟩
  obtain ⟨r, hr, rfl⟩ := List.mem_map.1 hx
  obtain ⟨k1, k2, k3⟩ := h2 r hr
  have e1 : withinB r.path 0 ((n.paths.length : Int) - 1) = true := within_iff.2 k1
  have e2 : withinB (max 0 (r.after - d)) 0 48 = true := within_iff.2 (by omega)
  simp [wrongR, easeR, e1, e2, wider_lim k3 ha hb hc]
theorem ease_path {rules : List Rule} {a b c d p : Int} : ofPath (rules.map (easeR a b c d)) p = (ofPath rules p).map (easeR a b c d) := by
  unfold ofPath
  rw [List.filter_map]
  rfl
theorem ease_keeps {rules : List Rule} {a b c d : Int} (hl : ∀ r ∈ rules, limB r.lim = true) (ha : 0 ≤ a) (hb : 0 ≤ b) (hc : 0 ≤ c) (hd : 0 ≤ d) (hr : ∀ r ∈ rules, 0 ≤ r.after) {s : List Hour} {h : Nat} (hk : keepsB alwaysB rules s h = true) : keepsB alwaysB (rules.map (easeR a b c d)) s h = true := by
  rw [keepsB_iff] at hk ⊢
  intro x hx
  have := (limF_iff (P := fun l => alwaysB l (hourAt s (x : Int)) = true) always_and _ _ _).1 (hk x hx)
  refine (limF_iff (P := fun l => alwaysB l (hourAt s (x : Int)) = true) always_and _ _ _).2 ⟨this.1, fun r' hr' hab => ?_⟩
  obtain ⟨r, hrm, rfl⟩ := List.mem_map.1 hr'
  have hra := hr r hrm
  refine wider_always (hl r hrm) ha hb hc (this.2 r hrm ?_)
  unfold easeR at hab
  dsimp only at hab
  omega
theorem ease_within {rules : List Rule} {a b c d : Int} (hl : ∀ r ∈ rules, limB r.lim = true) (ha : 0 ≤ a) (hb : 0 ≤ b) (hc : 0 ≤ c) (hd : 0 ≤ d) (hr : ∀ r ∈ rules, 0 ≤ r.after) (S : List (List Hour)) (H : Nat) :
    withinS (openS rules S H) (openS (rules.map (easeR a b c d)) S H) H = true := by
  rw [withinS_iff]
  unfold openS
  intro i hi hin
  rw [inSpans_spansQ, Bool.and_eq_true, List.all_eq_true] at hin
  rw [inSpans_spansQ, Bool.and_eq_true, List.all_eq_true]
  exact ⟨hin.1, fun s hs => ease_keeps hl ha hb hc hd hr (hin.2 s hs)⟩
end Go.Ab
namespace Go.Ab
open Go.RowKit Go.Proofs
set_option maxHeartbeats 4000000
set_option maxRecDepth 20000
def allTo (b : List Bool) (h j : Nat) : Bool := ((b.drop h).take j).all id
end Go.Ab
namespace Go.Ab
open Go.RowKit Go.Proofs
set_option maxHeartbeats 4000000
set_option maxRecDepth 20000
attribute [local irreducible] WalkL Walk
theorem f21 (l : List Span) (n : Int) (hl : l.length < 2 ^ 30) : Fn Tryz.prog 21 [.sl (spanRows l), .i n] (.bool (inSpans l n)) := by
  refine fn_walk 28 Tryz.call21 Tryz.func21 rfl (by decide) fun J => ?_
  simp (maxSteps := 4000000) only [go_sem, St.start, Tryz.ntmps21, Tryz.results21]
  repeat (first | refine walkL_seq ?_ | refine walkL_skip ?_ | refine walkL_block ?_ | (refine walkL_region fun K hK => ?_; simp (maxSteps := 4000000) only [go_sem, spanRows_len]; refine hK _ ?_; clear hK K) | refine walkL_nil ?_ | refine walkL_ret ?_ | refine walkL_exit ?_ | refine blockA_here ?_ | refine blockA_other rfl ?_ | refine blockA_ret ?_ | refine blockA_normal ?_ | refine thenA_ret ?_ | refine thenA_exit ?_ | refine thenA_normal ?_)
  refine walkL_loopS (fun (i : Nat) => [(5, .d (.i i))]) (fun _ => []) (fun i => i ≤ l.length ∧ (l.take i).any (fun s => withinB n s.lo s.hi) = false) (fun i => l.length - i) 0 ?_ ⟨Nat.zero_le _, by simp⟩ ?_
  · simp (maxSteps := 4000000) only [go_sem]
    refine weak_of [] ?_ ?_ rfl rfl <;> simp [lessT, lessM, lessB, AV.less]
  · intro i ⟨hi, hf⟩
    simp (maxSteps := 4000000) only [go_sem]
    repeat (first | refine walkL_seq ?_ | refine walkL_skip ?_ | refine walkL_block ?_ | (refine walkL_region fun K hK => ?_; simp (maxSteps := 4000000) only [go_sem, spanRows_len]; refine hK _ ?_; clear hK K) | refine walkL_nil ?_ | refine walkL_ret ?_ | refine walkL_exit ?_ | refine blockA_here ?_ | refine blockA_other rfl ?_ | refine blockA_ret ?_ | refine blockA_normal ?_ | refine thenA_ret ?_ | refine thenA_exit ?_ | refine thenA_normal ?_)
    refine walkL_cond rfl (fun hb => ?_) (fun hb => ?_)
    · have hlt : i < l.length := by simpa using hb
      have hw : IntKind.i64.wrap ((i : Int) + 1) = ((i + 1 : Nat) : Int) := by rw [wr_small (by omega)]; simp
      obtain ⟨s, hs⟩ : ∃ s, l[i]? = some s := ⟨_, List.getElem?_eq_getElem hlt⟩
      have g1 := spanRows_at hs
      rw [Span.row] at g1
      have hw' : withinB n s.lo s.hi = (decide (s.lo ≤ n) && decide (n ≤ s.hi)) := by simp [withinB]
      have hnx : (l.take (i + 1)).any (fun s => withinB n s.lo s.hi) = withinB n s.lo s.hi := by
        rw [List.take_add_one, hs, List.any_append, hf]; simp
      cases q1 : decide (s.lo ≤ n) <;> cases q2 : decide (n ≤ s.hi)
      all_goals
        rw [q1, q2] at hw'
        repeat (first | refine walkL_true rfl ?_ | refine walkL_false rfl ?_ | refine walkL_seq ?_ | refine walkL_skip ?_ | refine walkL_block ?_ | (refine walkL_region fun K hK => ?_; simp (maxSteps := 4000000) only [go_sem, g1, q1, q2, hw]; refine hK _ ?_; clear hK K) | refine walkL_nil ?_ | refine walkL_ret ?_ | refine walkL_exit ?_ | refine blockA_here ?_ | refine blockA_other rfl ?_ | refine blockA_ret ?_ | refine blockA_normal ?_ | refine thenA_ret ?_ | refine thenA_exit ?_ | refine thenA_normal ?_)
      all_goals first
        | (refine ⟨rfl, i + 1, ?_, ⟨hlt, by rw [hnx, hw']; rfl⟩, by omega⟩
           refine weak_of [] ?_ ?_ rfl rfl <;> simp [lessT, lessM, lessB, AV.less]
           done)
        | (have e : inSpans l n = true := List.any_eq_true.2 ⟨s, List.mem_of_getElem? hs, hw'⟩
           simp (maxSteps := 4000000) only [go_sem, e]
           done)
    · have he : i = l.length := by (have : ¬ i < l.length := by simpa using hb); omega
      subst he
      rw [List.take_length] at hf
      have e : inSpans l n = false := hf
      repeat (first | refine walkL_seq ?_ | refine walkL_skip ?_ | refine walkL_block ?_ | (refine walkL_region fun K hK => ?_; simp (maxSteps := 4000000) only [go_sem]; refine hK _ ?_; clear hK K) | refine walkL_nil ?_ | refine walkL_ret ?_ | refine walkL_exit ?_ | refine blockA_here ?_ | refine blockA_other rfl ?_ | refine blockA_ret ?_ | refine blockA_normal ?_ | refine thenA_ret ?_ | refine thenA_exit ?_ | refine thenA_normal ?_)
      simp (maxSteps := 4000000) only [go_sem, e]
def weathersB (F : List (List Hour)) (seen : List Sight) (m : List Sky) : Bool := !far5 F seen && (decide (seenF F seen = 0) && weB F seen m)
theorem f18 (F : List (List Hour)) (seen : List Sight) (m : List Sky) (hs : ForeSmall F) (hsl : seen.length < 2 ^ 30) :
    Fn Tryz.prog 18 [.agg [.sl (scenRows F)], .sl (sightRows seen), .sl (skyRows m)] (.bool (weathersB F seen m)) := by
  have h7 := f7 F seen hs
  have h8 := f54 F seen hs hsl
  have hsv := seen_vals F seen true
  unfold weathersB
  obtain ⟨e, he⟩ : ∃ e, e = seenF F seen := ⟨_, rfl⟩
  rw [← he] at h8 hsv ⊢
  cases q : far5 F seen
  · rw [q] at h7
    by_cases h0 : e = 0
    · obtain ⟨hg, hsi, _⟩ := hsv.2 h0
      have h50 := f55 F seen m hg hsi
      have hz : (e == 0) = true := by simpa using h0
      have hd : decide (e = 0) = true := by simpa using h0
      rw [hd]
      obtain ⟨w, hw⟩ : ∃ w, w = weB F seen m := ⟨_, rfl⟩
      rw [← hw] at h50 ⊢
      refine fn_walk 23 Tryz.call18 Tryz.func18 rfl (by decide) fun J => ?_
      simp (maxSteps := 4000000) only [go_sem, St.start, Tryz.ntmps18, Tryz.results18]
      repeat (first | refine walkL_true rfl ?_ | refine walkL_false rfl ?_ | refine walkL_seq ?_ | refine walkL_skip ?_ | refine walkL_block ?_ | (refine walkL_region fun K hK => ?_; simp (maxSteps := 4000000) only [go_sem, hz]; (repeat (first | (refine ⟨_, .lent (hf := h7) (hd := rfl) (hr := rfl), ?_⟩; simp (maxSteps := 4000000) only [go_sem, hz]) | (refine ⟨_, .lent (hf := h8) (hd := rfl) (hr := rfl), ?_⟩; simp (maxSteps := 4000000) only [go_sem, hz]) | (refine ⟨_, .lent (hf := h50) (hd := rfl) (hr := rfl), ?_⟩; simp (maxSteps := 4000000) only [go_sem, hz]) | (refine ⟨_, .given (hf := h7) (hd := rfl) (ha := rfl), ?_⟩; simp (maxSteps := 4000000) only [go_sem, hz]) | (refine ⟨_, .given (hf := h8) (hd := rfl) (ha := rfl), ?_⟩; simp (maxSteps := 4000000) only [go_sem, hz]) | (refine ⟨_, .given (hf := h50) (hd := rfl) (ha := rfl), ?_⟩; simp (maxSteps := 4000000) only [go_sem, hz]))); refine hK _ ?_; clear hK K) | refine walkL_nil ?_ | refine walkL_ret ?_ | refine walkL_exit ?_ | refine blockA_here ?_ | refine blockA_other rfl ?_ | refine blockA_ret ?_ | refine blockA_normal ?_ | refine thenA_ret ?_ | refine thenA_exit ?_ | refine thenA_normal ?_)
      simp (maxSteps := 4000000) only [go_sem]
    · have hz : (e == 0) = false := by simpa using h0
      have hd : decide (e = 0) = false := by simpa using h0
      rw [hd]
      refine fn_walk 23 Tryz.call18 Tryz.func18 rfl (by decide) fun J => ?_
      simp (maxSteps := 4000000) only [go_sem, St.start, Tryz.ntmps18, Tryz.results18]
      repeat (first | refine walkL_true rfl ?_ | refine walkL_false rfl ?_ | refine walkL_seq ?_ | refine walkL_skip ?_ | refine walkL_block ?_ | (refine walkL_region fun K hK => ?_; simp (maxSteps := 4000000) only [go_sem, hz]; (repeat (first | (refine ⟨_, .lent (hf := h7) (hd := rfl) (hr := rfl), ?_⟩; simp (maxSteps := 4000000) only [go_sem, hz]) | (refine ⟨_, .lent (hf := h8) (hd := rfl) (hr := rfl), ?_⟩; simp (maxSteps := 4000000) only [go_sem, hz]) | (refine ⟨_, .given (hf := h7) (hd := rfl) (ha := rfl), ?_⟩; simp (maxSteps := 4000000) only [go_sem, hz]) | (refine ⟨_, .given (hf := h8) (hd := rfl) (ha := rfl), ?_⟩; simp (maxSteps := 4000000) only [go_sem, hz]))); refine hK _ ?_; clear hK K) | refine walkL_nil ?_ | refine walkL_ret ?_ | refine walkL_exit ?_ | refine blockA_here ?_ | refine blockA_other rfl ?_ | refine blockA_ret ?_ | refine blockA_normal ?_ | refine thenA_ret ?_ | refine thenA_exit ?_ | refine thenA_normal ?_)
      simp (maxSteps := 4000000) only [go_sem]
  · rw [q] at h7
    refine fn_walk 23 Tryz.call18 Tryz.func18 rfl (by decide) fun J => ?_
    simp (maxSteps := 4000000) only [go_sem, St.start, Tryz.ntmps18, Tryz.results18]
    repeat (first | refine walkL_true rfl ?_ | refine walkL_false rfl ?_ | refine walkL_seq ?_ | refine walkL_skip ?_ | refine walkL_block ?_ | (refine walkL_region fun K hK => ?_; simp (maxSteps := 4000000) only [go_sem]; (repeat (first | (refine ⟨_, .lent (hf := h7) (hd := rfl) (hr := rfl), ?_⟩; simp (maxSteps := 4000000) only [go_sem]) | (refine ⟨_, .given (hf := h7) (hd := rfl) (ha := rfl), ?_⟩; simp (maxSteps := 4000000) only [go_sem]))); refine hK _ ?_; clear hK K) | refine walkL_nil ?_ | refine walkL_ret ?_ | refine walkL_exit ?_ | refine blockA_here ?_ | refine blockA_other rfl ?_ | refine blockA_ret ?_ | refine blockA_normal ?_ | refine thenA_ret ?_ | refine thenA_exit ?_ | refine thenA_normal ?_)
    simp (maxSteps := 4000000) only [go_sem]
theorem weathers_iff {F : List (List Hour)} {seen : List Sight} {m : List Sky} (h : weathersB F seen m = true) : far5 F seen = false ∧ ForeGood F ∧ sightsB (hd0 F).length seen = true ∧ weB F seen m = true := by
  unfold weathersB at h
  simp only [Bool.and_eq_true, Bool.not_eq_true', decide_eq_true_eq] at h
  have := (seen_vals F seen true).2 h.2.1
  exact ⟨h.1, this.1, this.2.1, h.2.2⟩
end Go.Ab
namespace Go.Ab
open Go.RowKit Go.Proofs
set_option maxHeartbeats 8000000
set_option maxRecDepth 20000
attribute [local irreducible] WalkL Walk
end Go.Ab
namespace Go.Ab
open Go.RowKit Go.Proofs
set_option maxHeartbeats 8000000
set_option maxRecDepth 20000
attribute [local irreducible] WalkL Walk
end Go.Ab
namespace Go.Ab
open Go.RowKit Go.Proofs
set_option maxHeartbeats 8000000
set_option maxRecDepth 20000
attribute [local irreducible] WalkL Walk
end Go.Ab
namespace Go.Ab
open Go.RowKit Go.Proofs
set_option maxHeartbeats 8000000
set_option maxRecDepth 20000
attribute [local irreducible] WalkL Walk
end Go.Ab
namespace Go.Ab
open Go.RowKit Go.Proofs
set_option maxHeartbeats 8000000
set_option maxRecDepth 20000
attribute [local irreducible] WalkL Walk
theorem f28 (l : Limits) (y : EaseX) (hl : limB l = true) (ha : 0 ≤ y.wind ∧ y.wind ≤ 1000) (hb : 0 ≤ y.rain ∧ y.rain ≤ 1000) (hc : 0 ≤ y.temp ∧ y.temp ≤ 1000) :
    Fn Tryz.prog 28 [.agg l.row, .agg y.cells] (.agg (widerL l y.wind y.rain y.temp).row) := by
  have hl := lim_iff.1 hl
  have w1 : IntKind.i64.wrap (l.wind + y.wind) = l.wind + y.wind := wr_small (by omega)
  have w2 : IntKind.i64.wrap (l.rain + y.rain) = l.rain + y.rain := wr_small (by omega)
  have w3 : IntKind.i64.wrap (l.temp.lo - y.temp) = l.temp.lo - y.temp := wr_small (by omega)
  have w4 : IntKind.i64.wrap (l.temp.hi + y.temp) = l.temp.hi + y.temp := wr_small (by omega)
  have h38 := f39 (max (-50) (l.temp.lo - y.temp)) (min 50 (l.temp.hi + y.temp))
  refine fn_walk 33 Tryz.call28 Tryz.func28 rfl (by decide) fun J => ?_
  simp (maxSteps := 4000000) only [go_sem, St.start, Tryz.ntmps28, Tryz.results28, Limits.row, EaseX.cells]
  repeat (first | refine walkL_seq ?_ | refine walkL_skip ?_ | refine walkL_block ?_ | (refine walkL_region fun K hK => ?_; simp (maxSteps := 4000000) only [go_sem]; refine hK _ ?_; clear hK K) | refine walkL_nil ?_ | refine walkL_ret ?_ | refine walkL_exit ?_ | refine blockA_here ?_ | refine blockA_other rfl ?_ | refine blockA_ret ?_ | refine blockA_normal ?_ | refine thenA_ret ?_ | refine thenA_exit ?_ | refine thenA_normal ?_)
  refine walkL_drawn (by kernel_rfl) (by kernel_rfl) fun K hK => ?_
  simp (maxSteps := 4000000) only [go_sem, w1, w2, w3, w4]
  refine ⟨_, .fn (hf := h38) (hd := rfl) (hr := .inr rfl), ?_⟩
  simp (maxSteps := 4000000) only [go_sem]
  refine ⟨by kernel_rfl, hK _ ?_⟩
  clear hK K
  repeat (first | refine walkL_seq ?_ | refine walkL_skip ?_ | refine walkL_block ?_ | (refine walkL_region fun K hK => ?_; simp (maxSteps := 4000000) only [go_sem]; refine hK _ ?_; clear hK K) | refine walkL_nil ?_ | refine walkL_ret ?_ | refine walkL_exit ?_ | refine blockA_here ?_ | refine blockA_other rfl ?_ | refine blockA_ret ?_ | refine blockA_normal ?_ | refine thenA_ret ?_ | refine thenA_exit ?_ | refine thenA_normal ?_)
  simp (maxSteps := 4000000) only [go_sem, Limits.row, widerL]
  try rfl
theorem f29 (A B : List Span) (H : Nat) (hA : A.length < 2 ^ 30) (hB : B.length < 2 ^ 30) (hH : H < 2 ^ 30) : Fn Tryz.prog 29 [.sl (spanRows A), .sl (spanRows B), .i H] (.bool (withinS A B H)) := by
  refine fn_walk 22 Tryz.call29 Tryz.func29 rfl (by decide) fun J => ?_
  simp (maxSteps := 4000000) only [go_sem, St.start, Tryz.ntmps29, Tryz.results29]
  repeat (first | refine walkL_seq ?_ | refine walkL_skip ?_ | refine walkL_block ?_ | (refine walkL_region fun K hK => ?_; simp (maxSteps := 4000000) only [go_sem]; refine hK _ ?_; clear hK K) | refine walkL_nil ?_ | refine walkL_ret ?_ | refine walkL_exit ?_ | refine blockA_here ?_ | refine blockA_other rfl ?_ | refine blockA_ret ?_ | refine blockA_normal ?_ | refine thenA_ret ?_ | refine thenA_exit ?_ | refine thenA_normal ?_)
  refine walkL_loopS (fun (i : Nat) => [(7, .d (.i i))]) (fun _ => []) (fun i => i ≤ H ∧ ∀ h < i, inSpans A (h : Int) = true → inSpans B (h : Int) = true) (fun i => H - i) 0 ?_ ⟨Nat.zero_le _, fun h hh => by omega⟩ ?_
  · simp (maxSteps := 4000000) only [go_sem]
    refine weak_of [] ?_ ?_ rfl rfl <;> simp [lessT, lessM, lessB, AV.less]
  · intro i ⟨hi, hin⟩
    simp (maxSteps := 4000000) only [go_sem]
    repeat (first | refine walkL_seq ?_ | refine walkL_skip ?_ | refine walkL_block ?_ | (refine walkL_region fun K hK => ?_; simp (maxSteps := 4000000) only [go_sem]; refine hK _ ?_; clear hK K) | refine walkL_nil ?_ | refine walkL_ret ?_ | refine walkL_exit ?_ | refine blockA_here ?_ | refine blockA_other rfl ?_ | refine blockA_ret ?_ | refine blockA_normal ?_ | refine thenA_ret ?_ | refine thenA_exit ?_ | refine thenA_normal ?_)
    refine walkL_cond rfl (fun hb => ?_) (fun hb => ?_)
    · have hlt : i < H := by simpa using hb
      have hw : IntKind.i64.wrap ((i : Int) + 1) = ((i + 1 : Nat) : Int) := by rw [wr_small (by omega)]; simp
      have hs1 := f21 A (i : Int) hA
      have hs2 := f21 B (i : Int) hB
      have hst : (inSpans A (i : Int) = true → inSpans B (i : Int) = true) → ∀ h < i + 1, inSpans A (h : Int) = true → inSpans B (h : Int) = true := fun hx h hh => by
        by_cases he : h = i
        · subst he; exact hx
        · exact hin h (by omega)
      cases qa : inSpans A (i : Int)
      · rw [qa] at hs1 hst
        repeat (first | refine walkL_true rfl ?_ | refine walkL_false rfl ?_ | refine walkL_seq ?_ | refine walkL_skip ?_ | refine walkL_block ?_ | (refine walkL_region fun K hK => ?_; simp (maxSteps := 4000000) only [go_sem, hw]; (repeat (first | (refine ⟨_, .lent (hf := hs1) (hd := rfl) (hr := rfl), ?_⟩; simp (maxSteps := 4000000) only [go_sem, hw]) | (refine ⟨_, .given (hf := hs1) (hd := rfl) (ha := rfl), ?_⟩; simp (maxSteps := 4000000) only [go_sem, hw]))); refine hK _ ?_; clear hK K) | refine walkL_nil ?_ | refine walkL_ret ?_ | refine walkL_exit ?_ | refine blockA_here ?_ | refine blockA_other rfl ?_ | refine blockA_ret ?_ | refine blockA_normal ?_ | refine thenA_ret ?_ | refine thenA_exit ?_ | refine thenA_normal ?_)
        refine ⟨rfl, i + 1, ?_, ⟨hlt, hst (fun h => by cases h)⟩, by omega⟩
        refine weak_of [] ?_ ?_ rfl rfl <;> simp [lessT, lessM, lessB, AV.less]
      · cases qb : inSpans B (i : Int)
        · have e : withinS A B H = false := by
            cases hx : withinS A B H
            · rfl
            · have := withinS_iff.1 hx i hlt qa
              rw [qb] at this
              cases this
          rw [e]
          rw [qa] at hs1
          rw [qb] at hs2
          repeat (first | refine walkL_true rfl ?_ | refine walkL_false rfl ?_ | refine walkL_seq ?_ | refine walkL_skip ?_ | refine walkL_block ?_ | (refine walkL_region fun K hK => ?_; simp (maxSteps := 4000000) only [go_sem, hw]; (repeat (first | (refine ⟨_, .lent (hf := hs1) (hd := rfl) (hr := rfl), ?_⟩; simp (maxSteps := 4000000) only [go_sem, hw]) | (refine ⟨_, .lent (hf := hs2) (hd := rfl) (hr := rfl), ?_⟩; simp (maxSteps := 4000000) only [go_sem, hw]) | (refine ⟨_, .given (hf := hs1) (hd := rfl) (ha := rfl), ?_⟩; simp (maxSteps := 4000000) only [go_sem, hw]) | (refine ⟨_, .given (hf := hs2) (hd := rfl) (ha := rfl), ?_⟩; simp (maxSteps := 4000000) only [go_sem, hw]))); refine hK _ ?_; clear hK K) | refine walkL_nil ?_ | refine walkL_ret ?_ | refine walkL_exit ?_ | refine blockA_here ?_ | refine blockA_other rfl ?_ | refine blockA_ret ?_ | refine blockA_normal ?_ | refine thenA_ret ?_ | refine thenA_exit ?_ | refine thenA_normal ?_)
          simp (maxSteps := 4000000) only [go_sem]
        · rw [qb] at hst
          rw [qa] at hs1
          rw [qb] at hs2
          repeat (first | refine walkL_true rfl ?_ | refine walkL_false rfl ?_ | refine walkL_seq ?_ | refine walkL_skip ?_ | refine walkL_block ?_ | (refine walkL_region fun K hK => ?_; simp (maxSteps := 4000000) only [go_sem, hw]; (repeat (first | (refine ⟨_, .lent (hf := hs1) (hd := rfl) (hr := rfl), ?_⟩; simp (maxSteps := 4000000) only [go_sem, hw]) | (refine ⟨_, .lent (hf := hs2) (hd := rfl) (hr := rfl), ?_⟩; simp (maxSteps := 4000000) only [go_sem, hw]) | (refine ⟨_, .given (hf := hs1) (hd := rfl) (ha := rfl), ?_⟩; simp (maxSteps := 4000000) only [go_sem, hw]) | (refine ⟨_, .given (hf := hs2) (hd := rfl) (ha := rfl), ?_⟩; simp (maxSteps := 4000000) only [go_sem, hw]))); refine hK _ ?_; clear hK K) | refine walkL_nil ?_ | refine walkL_ret ?_ | refine walkL_exit ?_ | refine blockA_here ?_ | refine blockA_other rfl ?_ | refine blockA_ret ?_ | refine blockA_normal ?_ | refine thenA_ret ?_ | refine thenA_exit ?_ | refine thenA_normal ?_)
          refine ⟨rfl, i + 1, ?_, ⟨hlt, hst (fun _ => rfl)⟩, by omega⟩
          refine weak_of [] ?_ ?_ rfl rfl <;> simp [lessT, lessM, lessB, AV.less]
    · have he : i = H := by (have : ¬ i < H := by simpa using hb); omega
      subst he
      rw [withinS_iff.2 hin]
      repeat (first | refine walkL_seq ?_ | refine walkL_skip ?_ | refine walkL_block ?_ | (refine walkL_region fun K hK => ?_; simp (maxSteps := 4000000) only [go_sem]; refine hK _ ?_; clear hK K) | refine walkL_nil ?_ | refine walkL_ret ?_ | refine walkL_exit ?_ | refine blockA_here ?_ | refine blockA_other rfl ?_ | refine blockA_ret ?_ | refine blockA_normal ?_ | refine thenA_ret ?_ | refine thenA_exit ?_ | refine thenA_normal ?_)
      simp (maxSteps := 4000000) only [go_sem]
end Go.Ab
namespace Go.Ab
open Go.RowKit Go.Proofs
set_option maxHeartbeats 8000000
set_option maxRecDepth 20000
attribute [local irreducible] WalkL Walk
theorem ruleRows_get {l : List Rule} {i : Nat} {x : Rule} (h : l[i]? = some x) : (ruleRows l)[i]? = some x.row := by simp [ruleRows, h]
structure RuledX where
  net : Net
  rules : List Rule
  path : Int
def RuledX.cells (x : RuledX) : List DV := [.i x.net.places, .sl (pathRows x.net.paths), .sl (ruleRows x.rules), .i x.path]
structure QueryX where
  hour : Int
  len : Int
  lim : Limits
def QueryX.cells (q : QueryX) : List DV := [.i q.hour, .i q.len, .i q.lim.wind, .i q.lim.rain, .i q.lim.temp.lo, .i q.lim.temp.hi]
structure WalkX where
  seen : List Sight
  ease : EaseX
  party : Party
  frm : Int
  start : Int
def WalkX.cells (k : WalkX) : List DV := [.sl (sightRows k.seen), .i k.ease.sight.hour, .i k.ease.sight.sky.wind, .i k.ease.sight.sky.rain, .i k.ease.sight.sky.temp, .i k.ease.wind, .i k.ease.rain, .i k.ease.temp, .i k.ease.less, .i k.party.grade, .i k.party.load, .i k.party.pace.lo, .i k.party.pace.hi, .i k.frm, .i k.start]
def farRules (x : RuledX) : Bool := farB x.net || decide ((x.rules.length : Int) > 14)
theorem f8 (x : RuledX) (hn : x.net.Small) : Fn Tryz.prog 8 [.agg x.cells] (.bool (farRules x)) := by
  have h36 := f36 x.net hn
  rw [Net.cells_eq] at h36
  unfold farRules
  cases q : farB x.net
  all_goals
    rw [q] at h36
    refine fn_walk 12 Tryz.call8 Tryz.func8 rfl (by decide) fun J => ?_
    simp (maxSteps := 4000000) only [go_sem, St.start, Tryz.ntmps8, Tryz.results8, RuledX.cells]
    repeat (first | refine walkL_true rfl ?_ | refine walkL_false rfl ?_ | refine walkL_seq ?_ | refine walkL_skip ?_ | refine walkL_block ?_ | (refine walkL_region fun K hK => ?_; simp (maxSteps := 4000000) only [go_sem]; (repeat (first | (refine ⟨_, .lent (hf := h36) (hd := rfl) (hr := rfl), ?_⟩; simp (maxSteps := 4000000) only [go_sem]) | (refine ⟨_, .given (hf := h36) (hd := rfl) (ha := rfl), ?_⟩; simp (maxSteps := 4000000) only [go_sem]))); refine hK _ ?_; clear hK K) | refine walkL_nil ?_ | refine walkL_ret ?_ | refine walkL_exit ?_ | refine blockA_here ?_ | refine blockA_other rfl ?_ | refine blockA_ret ?_ | refine blockA_normal ?_ | refine thenA_ret ?_ | refine thenA_exit ?_ | refine thenA_normal ?_)
    simp (maxSteps := 4000000) only [go_sem]
theorem f56 (n : Net) (rules : List Rule) (hn : n.Small) (hr : rules.length < 2 ^ 30) : Fn Tryz.prog 56 [.agg n.cells, .sl (ruleRows rules)] (.bool (!badRules n rules)) := by
  have hp := hn.paths
  refine fn_walk 41 Tryz.call56 Tryz.func56 rfl (by decide) fun J => ?_
  simp (maxSteps := 4000000) only [go_sem, St.start, Tryz.ntmps56, Tryz.results56, Net.cells_eq]
  repeat (first | refine walkL_seq ?_ | refine walkL_skip ?_ | refine walkL_block ?_ | (refine walkL_region fun K hK => ?_; simp (maxSteps := 4000000) only [go_sem]; refine hK _ ?_; clear hK K) | refine walkL_nil ?_ | refine walkL_ret ?_ | refine walkL_exit ?_ | refine blockA_here ?_ | refine blockA_other rfl ?_ | refine blockA_ret ?_ | refine blockA_normal ?_ | refine thenA_ret ?_ | refine thenA_exit ?_ | refine thenA_normal ?_)
  refine walkL_loopS (fun (i : Nat) => [(5, .d (.i i))]) (fun _ => []) (fun i => i ≤ rules.length ∧ (rules.take i).any (wrongR n.paths.length) = false) (fun i => rules.length - i) 0 ?_ ⟨Nat.zero_le _, by simp⟩ ?_
  · simp (maxSteps := 4000000) only [go_sem]
    refine weak_of [] ?_ ?_ rfl rfl <;> simp [lessT, lessM, lessB, AV.less]
  · intro i ⟨hi, hno⟩
    simp (maxSteps := 4000000) only [go_sem]
    repeat (first | refine walkL_seq ?_ | refine walkL_skip ?_ | refine walkL_block ?_ | (refine walkL_region fun K hK => ?_; simp (maxSteps := 4000000) only [go_sem, ruleRows_len]; refine hK _ ?_; clear hK K) | refine walkL_nil ?_ | refine walkL_ret ?_ | refine walkL_exit ?_ | refine blockA_here ?_ | refine blockA_other rfl ?_ | refine blockA_ret ?_ | refine blockA_normal ?_ | refine thenA_ret ?_ | refine thenA_exit ?_ | refine thenA_normal ?_)
    refine walkL_cond rfl (fun hb => ?_) (fun hb => ?_)
    · have hlt : i < rules.length := by simpa using hb
      have hw : IntKind.i64.wrap ((i : Int) + 1) = ((i + 1 : Nat) : Int) := by rw [wr_small (by omega)]; simp
      obtain ⟨x, hx⟩ : ∃ x, rules[i]? = some x := ⟨_, List.getElem?_eq_getElem hlt⟩
      have g1 := ruleRows_get hx
      rw [Rule.row] at g1
      have h43 := f43 n x.path (by omega)
      have h104 := f104 x.lim
      have h72 := f72 x.after 0 48
      rw [Net.cells_eq] at h43
      rw [Limits.row] at h104
      have hwr : wrongR n.paths.length x = (!withinB x.path 0 ((n.paths.length : Int) - 1) || (!limB x.lim || !withinB x.after 0 48)) := by
        unfold wrongR
        cases withinB x.path 0 ((n.paths.length : Int) - 1) <;> cases withinB x.after 0 48 <;> cases limB x.lim <;> rfl
      have hall : badRules n rules = true ∨ (badRules n rules = false → wrongR n.paths.length x = false) := by
        cases hbr : badRules n rules
        · right
          intro _
          unfold badRules at hbr
          rw [Bool.or_eq_false_iff] at hbr
          cases hw : wrongR n.paths.length x
          · rfl
          · have := List.any_eq_false.1 hbr.2 x (List.mem_of_getElem? hx)
            exact absurd hw this
        · exact .inl rfl
      obtain ⟨b1, e1⟩ : ∃ b, b = withinB x.path 0 ((n.paths.length : Int) - 1) := ⟨_, rfl⟩
      obtain ⟨b2, e2⟩ : ∃ b, b = withinB x.after 0 48 := ⟨_, rfl⟩
      obtain ⟨b3, e3⟩ : ∃ b, b = limB x.lim := ⟨_, rfl⟩
      rw [← e1] at h43
      rw [← e2] at h72
      rw [← e3] at h104
      rw [← e1, ← e2, ← e3] at hwr
      have hbad : wrongR n.paths.length x = true → badRules n rules = true := fun hw => by
        unfold badRules
        rw [List.any_eq_true.2 ⟨x, List.mem_of_getElem? hx, hw⟩, Bool.or_true]
      cases b1 <;> cases b2 <;> cases b3
      all_goals first
        | (have hbb := hbad (by rw [hwr]; rfl)
           rw [hbb]
           repeat (first | refine walkL_true rfl ?_ | refine walkL_false rfl ?_ | refine walkL_seq ?_ | refine walkL_skip ?_ | refine walkL_block ?_ | (refine walkL_region fun K hK => ?_; simp (maxSteps := 4000000) only [go_sem, g1, ruleRows_len]; (repeat (first | (refine ⟨_, .lent (hf := h43) (hd := rfl) (hr := rfl), ?_⟩; simp (maxSteps := 4000000) only [go_sem, g1, ruleRows_len]) | (refine ⟨_, .lent (hf := h104) (hd := rfl) (hr := rfl), ?_⟩; simp (maxSteps := 4000000) only [go_sem, g1, ruleRows_len]) | (refine ⟨_, .lent (hf := h72) (hd := rfl) (hr := rfl), ?_⟩; simp (maxSteps := 4000000) only [go_sem, g1, ruleRows_len]) | (refine ⟨_, .given (hf := h43) (hd := rfl) (ha := rfl), ?_⟩; simp (maxSteps := 4000000) only [go_sem, g1, ruleRows_len]) | (refine ⟨_, .given (hf := h104) (hd := rfl) (ha := rfl), ?_⟩; simp (maxSteps := 4000000) only [go_sem, g1, ruleRows_len]) | (refine ⟨_, .given (hf := h72) (hd := rfl) (ha := rfl), ?_⟩; simp (maxSteps := 4000000) only [go_sem, g1, ruleRows_len]))); refine hK _ ?_; clear hK K) | (refine walkL_drawn (by kernel_rfl) (by kernel_rfl) fun K hK => ?_; simp (maxSteps := 4000000) only [go_sem, g1, ruleRows_len]; (repeat (first | (refine ⟨_, .fn (hf := h43) (hd := rfl) (hr := .inl rfl), ?_⟩; simp (maxSteps := 4000000) only [go_sem, g1, ruleRows_len]) | (refine ⟨_, .fn (hf := h104) (hd := rfl) (hr := .inl rfl), ?_⟩; simp (maxSteps := 4000000) only [go_sem, g1, ruleRows_len]) | (refine ⟨_, .fn (hf := h72) (hd := rfl) (hr := .inl rfl), ?_⟩; simp (maxSteps := 4000000) only [go_sem, g1, ruleRows_len]))); refine ⟨by kernel_rfl, hK _ ?_⟩; clear hK K) | refine walkL_nil ?_ | refine walkL_ret ?_ | refine walkL_exit ?_ | refine blockA_here ?_ | refine blockA_other rfl ?_ | refine blockA_ret ?_ | refine blockA_normal ?_ | refine thenA_ret ?_ | refine thenA_exit ?_ | refine thenA_normal ?_)
           simp (maxSteps := 4000000) only [go_sem]
           done)
        | (have hw0 : wrongR n.paths.length x = false := by rw [hwr]; rfl
           repeat (first | refine walkL_true rfl ?_ | refine walkL_false rfl ?_ | refine walkL_seq ?_ | refine walkL_skip ?_ | refine walkL_block ?_ | (refine walkL_region fun K hK => ?_; simp (maxSteps := 4000000) only [go_sem, g1, hw]; (repeat (first | (refine ⟨_, .lent (hf := h43) (hd := rfl) (hr := rfl), ?_⟩; simp (maxSteps := 4000000) only [go_sem, g1, hw]) | (refine ⟨_, .lent (hf := h104) (hd := rfl) (hr := rfl), ?_⟩; simp (maxSteps := 4000000) only [go_sem, g1, hw]) | (refine ⟨_, .lent (hf := h72) (hd := rfl) (hr := rfl), ?_⟩; simp (maxSteps := 4000000) only [go_sem, g1, hw]) | (refine ⟨_, .given (hf := h43) (hd := rfl) (ha := rfl), ?_⟩; simp (maxSteps := 4000000) only [go_sem, g1, hw]) | (refine ⟨_, .given (hf := h104) (hd := rfl) (ha := rfl), ?_⟩; simp (maxSteps := 4000000) only [go_sem, g1, hw]) | (refine ⟨_, .given (hf := h72) (hd := rfl) (ha := rfl), ?_⟩; simp (maxSteps := 4000000) only [go_sem, g1, hw]))); refine hK _ ?_; clear hK K) | (refine walkL_drawn (by kernel_rfl) (by kernel_rfl) fun K hK => ?_; simp (maxSteps := 4000000) only [go_sem, g1, hw]; (repeat (first | (refine ⟨_, .fn (hf := h43) (hd := rfl) (hr := .inl rfl), ?_⟩; simp (maxSteps := 4000000) only [go_sem, g1, hw]) | (refine ⟨_, .fn (hf := h104) (hd := rfl) (hr := .inl rfl), ?_⟩; simp (maxSteps := 4000000) only [go_sem, g1, hw]) | (refine ⟨_, .fn (hf := h72) (hd := rfl) (hr := .inl rfl), ?_⟩; simp (maxSteps := 4000000) only [go_sem, g1, hw]))); refine ⟨by kernel_rfl, hK _ ?_⟩; clear hK K) | refine walkL_nil ?_ | refine walkL_ret ?_ | refine walkL_exit ?_ | refine blockA_here ?_ | refine blockA_other rfl ?_ | refine blockA_ret ?_ | refine blockA_normal ?_ | refine thenA_ret ?_ | refine thenA_exit ?_ | refine thenA_normal ?_)
           refine ⟨rfl, i + 1, ?_, ⟨hlt, any_take_succ hx hno hw0⟩, by omega⟩
           refine weak_of [] ?_ ?_ rfl rfl <;> simp [lessT, lessM, lessB, AV.less]
           done)
    · have he : i = rules.length := by (have : ¬ i < rules.length := by simpa using hb); omega
      subst he
      rw [List.take_length] at hno
      have e : badRules n rules = decide ((rules.length : Int) > 12) := by unfold badRules; rw [hno, Bool.or_false]
      rw [e]
      cases q : decide ((rules.length : Int) > 12)
      · have q' : decide ((rules.length : Int) ≤ 12) = true := by simp at q ⊢; omega
        repeat (first | refine walkL_true rfl ?_ | refine walkL_false rfl ?_ | refine walkL_seq ?_ | refine walkL_skip ?_ | refine walkL_block ?_ | (refine walkL_region fun K hK => ?_; simp (maxSteps := 4000000) only [go_sem, q', ruleRows_len]; refine hK _ ?_; clear hK K) | refine walkL_nil ?_ | refine walkL_ret ?_ | refine walkL_exit ?_ | refine blockA_here ?_ | refine blockA_other rfl ?_ | refine blockA_ret ?_ | refine blockA_normal ?_ | refine thenA_ret ?_ | refine thenA_exit ?_ | refine thenA_normal ?_)
        simp (maxSteps := 4000000) only [go_sem]
      · have q' : decide ((rules.length : Int) ≤ 12) = false := by simp at q ⊢; omega
        repeat (first | refine walkL_true rfl ?_ | refine walkL_false rfl ?_ | refine walkL_seq ?_ | refine walkL_skip ?_ | refine walkL_block ?_ | (refine walkL_region fun K hK => ?_; simp (maxSteps := 4000000) only [go_sem, q', ruleRows_len]; refine hK _ ?_; clear hK K) | refine walkL_nil ?_ | refine walkL_ret ?_ | refine walkL_exit ?_ | refine blockA_here ?_ | refine blockA_other rfl ?_ | refine blockA_ret ?_ | refine blockA_normal ?_ | refine thenA_ret ?_ | refine thenA_exit ?_ | refine thenA_normal ?_)
        simp (maxSteps := 4000000) only [go_sem]
end Go.Ab
namespace Go.Ab
open Go.RowKit
inductive Sh where
  | int (k : IntKind)
  | bool
  | sl (row : List Sh)
mutual
def Sh.fits (N : Nat) : Sh → DV → Prop
  | .int k, d => ∃ n, d = .int k n ∧ (Lit.int k n).wf = true
  | .bool, d => ∃ b, d = .bool b
  | .sl r, d => ∃ rows, d = .sl rows ∧ rows.length ≤ N ∧ ∀ row ∈ rows, Sh.fitsL N r row
def Sh.fitsL (N : Nat) : List Sh → List DV → Prop
  | [], ds => ds = []
  | s :: ss, ds => ∃ d r, ds = d :: r ∧ Sh.fits N s d ∧ Sh.fitsL N ss r
end
theorem Sh.fitsL_len {N : Nat} : ∀ {ss : List Sh} {ds : List DV}, Sh.fitsL N ss ds → ds.length = ss.length
  | [], _, h => by simp only [Sh.fitsL] at h; subst h; rfl
  | s :: ss, ds, h => by
    simp only [Sh.fitsL] at h
    obtain ⟨d, r, rfl, _, h⟩ := h
    simp [Sh.fitsL_len h]
theorem Sh.fitsL_append {N : Nat} : ∀ {ss ts : List Sh} {ds es : List DV}, Sh.fitsL N ss ds → Sh.fitsL N ts es → Sh.fitsL N (ss ++ ts) (ds ++ es)
  | [], _, _, _, h, k => by simp only [Sh.fitsL] at h; subst h; simpa using k
  | s :: ss, ts, ds, es, h, k => by
    simp only [Sh.fitsL] at h
    obtain ⟨d, r, rfl, hd, h⟩ := h
    simp only [List.cons_append, Sh.fitsL]
    exact ⟨d, r ++ es, rfl, hd, Sh.fitsL_append h k⟩
def shapesF (P : Program) (g : TypeId → Option (List Sh)) : List Field → Nat → Option (List Sh)
  | [], _ => some []
  | f :: fs, o => if f.offset = o then (g f.type).bind fun r => if P.cellsOf f.type = r.length then (shapesF P g fs (o + r.length)).map fun s => r ++ s else none else none
def shapes (P : Program) : Nat → TypeId → Option (List Sh)
  | 0, _ => none
  | n + 1, t => match P.underlying t with
    | some .bool => some [.bool]
    | some (.int k) => some [.int k]
    | some (.slice e) => (shapes P n e).bind fun r => if P.cellsOf e = r.length ∧ 0 < r.length then some [.sl r] else none
    | some (.struct fs) => (shapesF P (shapes P n) fs.toList 0).bind fun r => if P.cellsOf t = r.length then some r else none
    | _ => none
structure BulkOk {H : Type} (b : DataW H → Nat) : Prop where
  slice : ∀ elems spare, elems.length ≤ b (.slice elems spare)
  elem : ∀ elems spare, ∀ d ∈ elems, b d ≤ b (.slice elems spare)
  part : ∀ parts, ∀ d ∈ parts, b d ≤ b (.agg parts)
def Reads (w : World) (ds : List DV) (cs : List Value) : Prop :=
  ∀ (i : Nat) d v, ds[i]? = some d → cs[i]? = some v → v.oneCell' = true ∧ DRel w (fun _ => False) d v
section
variable {H : Type} {enc : TypeId × Value → H} {P : Program} {w : World} {sp : Nat → Bool} {held : Bool}
theorem readF {b : DataW H → Nat} {N : Nat} {g : TypeId → Option (List Sh)} {m : Nat} {cs : List Value}
    (hg : ∀ (t : TypeId) sh, g t = some sh → ∀ cs d ps, DataW.trod enc P w 0 sp held m t cs = some (d, ps) → b d ≤ N → cs.length = sh.length ∧ ∃ ds, Sh.fitsL N sh ds ∧ Reads w ds cs) :
    ∀ (fs : List Field) (xs : List (DataW H × List MemPlace)) (o : Nat) (sh : List Sh), shapesF P g fs o = some sh → xs.length = fs.length →
      (∀ (i : Nat) (f : Field), fs[i]? = some f → DataW.trod enc P w 0 sp held m f.type ((cs.drop f.offset).take (P.cellsOf f.type)) = xs[i]?) → (∀ x ∈ xs, b x.1 ≤ N) →
      ∃ ds, Sh.fitsL N sh ds ∧ Reads w ds (cs.drop o)
  | [], xs, o, sh, h, hl, _, _ => by
    simp only [shapesF, Option.some.injEq] at h
    subst h
    exact ⟨[], by simp [Sh.fitsL], fun i d v h => by simp at h⟩
  | f :: fs, xs, o, sh, h, hl, hx, hb => by
    simp only [shapesF] at h
    split at h
    case isFalse => cases h
    case isTrue ho =>
    obtain ⟨r, hr, h⟩ := Option.bind_eq_some_iff.1 h
    split at h
    case isFalse => cases h
    case isTrue hc =>
    obtain ⟨s, hs, rfl⟩ := Option.map_eq_some_iff.1 h
    cases xs with
    | nil => simp at hl
    | cons x xs =>
      have h0 := hx 0 f rfl
      rw [List.getElem?_cons_zero] at h0
      obtain ⟨hlen, ds, hf, hd⟩ := hg _ _ hr _ x.1 x.2 h0 (hb x (by simp))
      obtain ⟨es, he, hd'⟩ := readF hg fs xs (o + r.length) s hs (by simpa using hl) (fun i f' hf' => by simpa using hx (i + 1) f' (by simpa using hf')) (fun y hy => hb y (by simp [hy]))
      have hdl := Sh.fitsL_len hf
      refine ⟨ds ++ es, Sh.fitsL_append hf he, fun i d v h1 h2 => ?_⟩
      rw [List.getElem?_drop] at h2
      rcases Nat.lt_or_ge i ds.length with hi | hi
      · rw [List.getElem?_append_left hi] at h1
        refine hd i d v h1 ?_
        rw [List.getElem?_take, List.getElem?_drop, ho, if_pos (by omega), h2]
      · rw [List.getElem?_append_right hi] at h1
        refine hd' (i - ds.length) d v h1 ?_
        rw [List.getElem?_drop]
        rw [show o + r.length + (i - ds.length) = o + i from by omega, h2]
theorem cells_get {w : World} {a : Addr} {n : Nat} {cs : List Value} (h : w.cells? 0 a n = some cs) : cs.length = n ∧ ∀ j, j < n → w.cell? (a.add j) = cs[j]? := by
  simp only [World.cells?, Nat.zero_le, if_true] at h
  exact ⟨by simpa using mapM_some_length h, fun j hj => mapM_some_get h j j (by simp [hj])⟩
theorem cell_spot {w : World} {a : Addr} {v : Value} (h : w.cell? a = some v) : a.spot = none := by
  unfold World.cell? at h
  split at h
  · split at h
    · cases h
    · cases hs : a.spot <;> simp_all
  · cases h
theorem trod_read {b : DataW H → Nat} (hb : BulkOk b) (N : Nat) : ∀ (n : Nat) (t : TypeId) (sh : List Sh), shapes P n t = some sh → ∀ fuel cs d ps, DataW.trod enc P w 0 sp held fuel t cs = some (d, ps) → b d ≤ N →
    cs.length = sh.length ∧ ∃ ds, Sh.fitsL N sh ds ∧ Reads w ds cs
  | 0, _, _, h => by simp [shapes] at h
  | n + 1, t, sh, h => by
    intro fuel cs d ps hd hN
    unfold shapes at h
    split at h
    case h_1 ht =>
      cases h
      obtain ⟨v, rfl, _⟩ := DataW.trod_bool ht hd
      refine ⟨rfl, [.bool v], ?_, ?_⟩
      · simp [Sh.fitsL, Sh.fits]
      · intro i d' v' h1 h2
        cases i with
        | zero => simp only [List.getElem?_cons_zero, Option.some.injEq] at h1 h2; subst h1; subst h2; exact ⟨rfl, .bool _⟩
        | succ i => simp at h1
    case h_2 k ht =>
      cases h
      obtain ⟨v, rfl, _, hw⟩ := DataW.trod_int ht hd
      refine ⟨rfl, [.int k v], ?_, ?_⟩
      · simpa [Sh.fitsL, Sh.fits] using hw
      · intro i d' v' h1 h2
        cases i with
        | zero => simp only [List.getElem?_cons_zero, Option.some.injEq] at h1 h2; subst h1; subst h2; exact ⟨rfl, .int _ _⟩
        | succ i => simp at h1
    case h_3 e ht =>
      obtain ⟨r, hr, h⟩ := Option.bind_eq_some_iff.1 h
      split at h
      case isFalse => cases h
      case isTrue hc =>
      obtain ⟨hc, hp⟩ := hc
      cases h
      rcases DataW.trod_slice ht hd with ⟨rfl, _⟩ | ⟨a, len, cap, elems, rest, m, rfl, rfl, hx, _, hcap, _, hl, hel, _⟩
      · refine ⟨rfl, [.sl []], ?_, ?_⟩
        · simp [Sh.fitsL, Sh.fits]
        · intro i d' v' h1 h2
          cases i with
          | zero => simp only [List.getElem?_cons_zero, Option.some.injEq] at h1 h2; subst h1; subst h2; exact ⟨rfl, .slNil⟩
          | succ i => simp at h1
      · obtain rfl : d = .slice (elems.map (·.1)) (rest.map (·.1)) := congrArg Prod.fst hx
        have hrow : ∀ i : Nat, ∃ ds : List DV, i < len → Sh.fitsL N r ds ∧ ∀ j d, ds[j]? = some d → ∃ v, w.cell? (a.add (i * r.length) |>.add j) = some v ∧ v.oneCell' = true ∧ DRel w (fun _ => False) d v := by
          intro i
          by_cases hi : i < len
          · have h1 := hel i hi
            rw [List.getElem?_eq_getElem (by omega)] at h1
            obtain ⟨cs', hcs, htr⟩ := Option.bind_eq_some_iff.1 h1
            have hin : (elems[i]'(by omega)).1 ∈ elems.map (·.1) := List.mem_map.2 ⟨_, List.getElem_mem _, rfl⟩
            obtain ⟨hlen, ds, hf, hds⟩ := trod_read hb N n e r hr m cs' (elems[i]'(by omega)).1 (elems[i]'(by omega)).2 htr (Nat.le_trans (hb.elem _ _ _ hin) hN)
            refine ⟨ds, fun _ => ⟨hf, fun j d hj => ?_⟩⟩
            have hjl : j < ds.length := by
              rcases Nat.lt_or_ge j ds.length with h | h
              · exact h
              · rw [List.getElem?_eq_none h] at hj; cases hj
            rw [Sh.fitsL_len hf] at hjl
            have hcell := (cells_get hcs).2 j (by omega)
            rw [hc] at hcell
            have hv : cs'[j]? = some (cs'[j]'(by omega)) := List.getElem?_eq_getElem _
            rw [hv] at hcell
            exact ⟨_, hcell, hds j d _ hj hv⟩
          · exact ⟨[], fun h => absurd h hi⟩
        have hcho := Classical.axiomOfChoice hrow
        obtain ⟨F, hF⟩ := hcho
        have hrl : ((List.range len).map F).length = len := by simp
        refine ⟨rfl, [.sl ((List.range len).map F)], ?_, ?_⟩
        · simp only [Sh.fitsL, Sh.fits]
          refine ⟨_, _, rfl, ⟨_, rfl, ?_, ?_⟩, rfl⟩
          · rw [hrl]
            have := hb.slice (elems.map (·.1)) (rest.map (·.1))
            simp only [List.length_map] at this
            omega
          · intro row hrow
            obtain ⟨i, hi, rfl⟩ := List.mem_map.1 hrow
            exact (hF i (by simpa using hi)).1
        · intro i d' v' h1 h2
          cases i with
          | succ i => simp at h1
          | zero =>
            simp only [List.getElem?_cons_zero, Option.some.injEq] at h1 h2
            subst h1; subst h2
            refine ⟨rfl, ?_⟩
            cases hlen : len with
            | zero => exact .slEmpty _ _
            | succ l =>
              have hspot : a.spot = none := by
                have h0 := hF 0 (by omega)
                have hfl := Sh.fitsL_len h0.1
                obtain ⟨v, hv, _⟩ := h0.2 0 ((F 0)[0]'(by omega)) (List.getElem?_eq_getElem _)
                simp only [Nat.zero_mul, Addr.add, if_true] at hv
                exact cell_spot hv
              obtain ⟨blk, off, spot⟩ := a
              simp only at hspot
              subst hspot
              have hadd : ∀ i j, (Addr.add (Addr.add ⟨blk, off, none⟩ (i * r.length)) j) = ⟨blk, off + i * r.length + j, none⟩ := by
                intro i j
                unfold Addr.add
                by_cases h1 : i * r.length = 0 <;> by_cases h2 : j = 0 <;> simp [h1, h2]
              have hall : ∀ (i : Nat) (r' : List DV) (j : Nat) (d : DV), ((List.range len).map F)[i]? = some r' → r'[j]? = some d → ∃ v, w.cell? ⟨blk, off + i * r.length + j, none⟩ = some v ∧ v.oneCell' = true ∧ DRel w (fun _ => False) d v := by
                intro i r' j d h1 h2
                rw [List.getElem?_map] at h1
                obtain ⟨i', hi', rfl⟩ := Option.map_eq_some_iff.1 h1
                obtain ⟨hil, rfl⟩ := List.getElem?_eq_some_iff.1 hi'
                simp only [List.length_range] at hil
                simp only [List.getElem_range] at h2
                obtain ⟨v, hv, h3, h4⟩ := (hF i hil).2 j d h2
                rw [hadd] at hv
                exact ⟨v, hv, h3, h4⟩
              have hfin := DRel.sl (w := w) (own := fun _ => False) ((List.range len).map F) blk off r.length cap (fun i j => (w.cell? ⟨blk, off + i * r.length + j, none⟩).getD .nilFunc) (by rw [hrl]; exact hcap)
                (by
                  intro row hrow
                  obtain ⟨i, hi, rfl⟩ := List.mem_map.1 hrow
                  exact Sh.fitsL_len (hF i (by simpa using hi)).1)
                (by
                  intro i r' j d h1 h2
                  obtain ⟨v, hv, h3, _⟩ := hall i r' j d h1 h2
                  rw [hv]
                  exact ⟨fun h => h, rfl, h3⟩)
                (by
                  intro i r' j d h1 h2
                  obtain ⟨v, hv, _, h4⟩ := hall i r' j d h1 h2
                  simp only [hv, Option.getD_some]
                  exact h4)
              rw [hrl] at hfin
              rw [hlen] at hfin
              exact hfin
    case h_4 fs ht =>
      obtain ⟨r, hr, h⟩ := Option.bind_eq_some_iff.1 h
      split at h
      case isFalse => cases h
      case isTrue hc =>
      cases h
      obtain ⟨xs, m, rfl, hx, hl, hxl, hi⟩ := DataW.trod_struct ht hd
      obtain rfl : d = .agg (xs.map (·.1)) := congrArg Prod.fst hx
      obtain ⟨ds, hf, hds⟩ := readF (fun t sh h cs d ps hd hN => trod_read hb N n t sh h m cs d ps hd hN) fs.toList xs 0 sh hr (by simpa using hxl) (fun i f hf => hi i f (by simpa using hf))
        (fun x hx => Nat.le_trans (hb.part _ _ (List.mem_map.2 ⟨x, hx, rfl⟩)) hN)
      exact ⟨by omega, ds, hf, by simpa using hds⟩
    case h_5 => cases h
end
end Go.Ab
/- The link from a walked contract to a statement's contract, for arguments of any number and of the types that the statements take; where what is read is of bulk at most the bound. -/
namespace Go.Ab
open Go.RowKit Go.Proofs Go.ChangeShapes Go.WideShapes Go.Proofs.YtlcbalngfpgjdaaGreatDoor
set_option linter.unusedVariables false
set_option maxRecDepth 100000
section
variable {H : Type} {enc : TypeId × Value → H} {P : Program}
theorem post_of_below {f : Func} {s : ChangeSpec} {apart fresh handsOn again : Bool} {W W' : World} {args : Array Value} {v : Value} {ds gs : List (DataW H)} {before pa pv : List MemPlace}
    (hW : DataW.Whole enc P f.params.toList s.vars apart W args.toList ds gs before)
    (hres : ∀ (b : Nat) (sp : Nat → Bool) (hd : Bool), DataW.TrodAll enc P W' b sp hd f.resultTypes.toList (v.resultList f.resultTypes.size) (s.fn H (ds ++ gs)).results [])
    (hargs : ∀ sp : Nat → Bool, (∀ p ∈ before, sp p.block = true) → DataW.TrodAll enc P W' 0 sp true f.params.toList args.toList (s.fn H (ds ++ gs)).args pa)
    (hvars : ∀ sp : Nat → Bool, (∀ p ∈ before, sp p.block = true) → DataW.TrodVars enc P W' sp s.vars (s.fn H (ds ++ gs)).vars pv)
    (hps : before = pa ++ pv) (hb : Below W.heap.size W W')
    (hok : ∀ (j : Nat) (t : TypeId) (r : Value), f.resultTypes[j]? = some t → (v.resultList f.resultTypes.size)[j]? = some r → Value.okWide P W' .any 0 t r) :
    s.post enc P f apart fresh handsOn again W args v W' := by
  have hlt := hW.lt
  have hold : ∀ p ∈ before, (fun b => decide (b < W.heap.size)) p.block = true := fun p hp => by simpa using hlt p hp
  refine ⟨ds, gs, before, [], pa, pv, hW, hres _ _ _, hargs _ hold, hvars _ hold, World.keptBut_mono (fun p hp => ⟨hp, ?_⟩) (hb.frame (· ∈ before)), fun _ => ?_⟩
  · rw [hps, List.mem_append] at hp
    exact Or.inr hp
  · obtain ⟨_, _, _, _, _, hz, hn⟩ := hW
    refine ⟨hok, _, _, ([] ++ pa) ++ pv, ⟨[] ++ pa, pv, trodAll_append (hargs _ (fun _ _ => rfl)) (hres _ _ _), hvars _ (fun _ _ => rfl), rfl, ?_, ?_⟩, ?_⟩
    · intro b off hp
      have hp' : MemPlace.cell b off ∈ before := by rw [hps]; simpa using hp
      rw [hb.frozen (p := ⟨b, off, none⟩) (hlt _ hp')]
      exact hz b off hp'
    · intro ha
      have := hn ha
      rw [hps] at this
      simpa using this
    · intro p hp _
      rw [hps]
      simpa using hp
end
theorem rows_of {α : Type} {row : α → List DV} {Q : α → Prop} : ∀ {rows : List (List DV)}, (∀ r ∈ rows, ∃ a, r = row a ∧ Q a) → ∃ l : List α, rows = l.map row ∧ ∀ a ∈ l, Q a
  | [], _ => ⟨[], rfl, fun _ h => by cases h⟩
  | r :: rs, h => by
    obtain ⟨a, rfl, ha⟩ := h r (by simp)
    obtain ⟨l, rfl, hl⟩ := rows_of (rows := rs) (fun r hr => h r (by simp [hr]))
    exact ⟨a :: l, rfl, fun b hb => by rcases List.mem_cons.1 hb with rfl | hb; exact ha; exact hl b hb⟩
def iS : Sh := .int .i64
def hourS : List Sh := [iS, iS, iS, iS, iS, iS]
def skyS : List Sh := [iS, iS, iS]
def sightS : List Sh := [iS, iS, iS, iS]
def foreS : List Sh := [.sl [.sl hourS]]
def limS : List Sh := [iS, iS, iS, iS]
def realS : List Sh := [.sl sightS, .sl skyS, iS, iS, iS, iS, iS]
def easeS : List Sh := [iS, iS, iS, iS, iS, iS, iS, iS]
theorem hour_of {N : Nat} {r : List DV} (h : Sh.fitsL N hourS r) : ∃ s : Hour, r = s.row ∧ True := by
  simp only [hourS, iS, Sh.fitsL, Sh.fits] at h
  obtain ⟨_, _, rfl, ⟨a, rfl, _⟩, _, _, rfl, ⟨b, rfl, _⟩, _, _, rfl, ⟨c, rfl, _⟩, _, _, rfl, ⟨d, rfl, _⟩, _, _, rfl, ⟨e, rfl, _⟩, _, _, rfl, ⟨f, rfl, _⟩, rfl⟩ := h
  exact ⟨⟨⟨a, b⟩, ⟨c, d⟩, ⟨e, f⟩⟩, rfl, trivial⟩
theorem sight_of {N : Nat} {r : List DV} (h : Sh.fitsL N sightS r) : ∃ s : Sight, r = s.row ∧ True := by
  simp only [sightS, iS, Sh.fitsL, Sh.fits] at h
  obtain ⟨_, _, rfl, ⟨d, rfl, _⟩, _, _, rfl, ⟨a, rfl, _⟩, _, _, rfl, ⟨b, rfl, _⟩, _, _, rfl, ⟨c, rfl, _⟩, rfl⟩ := h
  exact ⟨⟨d, ⟨a, b, c⟩⟩, rfl, trivial⟩
theorem sights_of {N : Nat} {d : DV} (h : Sh.fits N (.sl sightS) d) : ∃ l : List Sight, d = .sl (sightRows l) ∧ l.length ≤ N := by
  simp only [Sh.fits] at h
  obtain ⟨rows, rfl, hl, hr⟩ := h
  obtain ⟨l, rfl, _⟩ := rows_of (fun r h => sight_of (hr r h))
  exact ⟨l, rfl, by simpa using hl⟩
theorem hours_of {N : Nat} {r : List DV} (h : Sh.fitsL N [.sl hourS] r) : ∃ l : List Hour, r = [.sl (hourRows l)] ∧ l.length ≤ N := by
  simp only [Sh.fitsL] at h
  obtain ⟨d, _, rfl, h, rfl⟩ := h
  simp only [Sh.fits] at h
  obtain ⟨rows, rfl, hl, hr⟩ := h
  obtain ⟨l, rfl, _⟩ := rows_of (fun r h => hour_of (hr r h))
  exact ⟨l, rfl, by simpa using hl⟩
theorem scens_of {N : Nat} {d : DV} (h : Sh.fits N (.sl [.sl hourS]) d) : ∃ F : List (List Hour), d = .sl (scenRows F) ∧ F.length ≤ N ∧ ∀ l ∈ F, l.length ≤ N := by
  simp only [Sh.fits] at h
  obtain ⟨rows, rfl, hl, hr⟩ := h
  obtain ⟨F, rfl, hF⟩ := rows_of (row := fun l : List Hour => [DV.sl (hourRows l)]) (fun r h => hours_of (hr r h))
  exact ⟨F, rfl, by simpa using hl, hF⟩
def spanS : List Sh := [iS, iS]
def ruleS : List Sh := [iS, iS, iS, iS, iS, iS]
def pathS : List Sh := [iS, iS, iS, iS, iS, iS, iS, .sl spanS]
def ruledS : List Sh := [iS, .sl pathS, .sl ruleS, iS]
def queryS : List Sh := [iS, iS, iS, iS, iS, iS]
def walkS : List Sh := [.sl sightS, iS, iS, iS, iS, iS, iS, iS, iS, iS, iS, iS, iS, iS, iS]
theorem span_of {N : Nat} {r : List DV} (h : Sh.fitsL N spanS r) : ∃ s : Span, r = s.row ∧ True := by
  simp only [spanS, iS, Sh.fitsL, Sh.fits] at h
  obtain ⟨_, _, rfl, ⟨a, rfl, _⟩, _, _, rfl, ⟨b, rfl, _⟩, rfl⟩ := h
  exact ⟨⟨a, b⟩, rfl, trivial⟩
theorem spans_of {N : Nat} {d : DV} (h : Sh.fits N (.sl spanS) d) : ∃ l : List Span, d = .sl (spanRows l) ∧ l.length ≤ N := by
  simp only [Sh.fits] at h
  obtain ⟨rows, rfl, hl, hr⟩ := h
  obtain ⟨l, rfl, _⟩ := rows_of (fun r h => span_of (hr r h))
  exact ⟨l, rfl, by simpa using hl⟩
theorem rule_of {N : Nat} {r : List DV} (h : Sh.fitsL N ruleS r) : ∃ s : Rule, r = s.row ∧ True := by
  simp only [ruleS, iS, Sh.fitsL, Sh.fits] at h
  obtain ⟨_, _, rfl, ⟨a, rfl, _⟩, _, _, rfl, ⟨b, rfl, _⟩, _, _, rfl, ⟨c, rfl, _⟩, _, _, rfl, ⟨d, rfl, _⟩, _, _, rfl, ⟨e, rfl, _⟩, _, _, rfl, ⟨f, rfl, _⟩, rfl⟩ := h
  exact ⟨⟨a, b, ⟨c, d, ⟨e, f⟩⟩⟩, rfl, trivial⟩
theorem rules_of {N : Nat} {d : DV} (h : Sh.fits N (.sl ruleS) d) : ∃ l : List Rule, d = .sl (ruleRows l) ∧ l.length ≤ N := by
  simp only [Sh.fits] at h
  obtain ⟨rows, rfl, hl, hr⟩ := h
  obtain ⟨l, rfl, _⟩ := rows_of (fun r h => rule_of (hr r h))
  exact ⟨l, rfl, by simpa using hl⟩
theorem path_of {N : Nat} {r : List DV} (h : Sh.fitsL N pathS r) : ∃ p : Path, r = p.row ∧ p.opens.length ≤ N := by
  simp only [pathS, iS] at h
  simp only [Sh.fitsL] at h
  obtain ⟨_, _, rfl, h0, _, _, rfl, h1, _, _, rfl, h2, _, _, rfl, h3, _, _, rfl, h4, _, _, rfl, h5, _, _, rfl, h6, x, _, rfl, h7, rfl⟩ := h
  obtain ⟨o, rfl, ho⟩ := spans_of h7
  simp only [Sh.fits] at h0 h1 h2 h3 h4 h5 h6
  obtain ⟨a, rfl, _⟩ := h0
  obtain ⟨b, rfl, _⟩ := h1
  obtain ⟨c, rfl, _⟩ := h2
  obtain ⟨d, rfl, _⟩ := h3
  obtain ⟨e, rfl, _⟩ := h4
  obtain ⟨f, rfl, _⟩ := h5
  obtain ⟨g, rfl, _⟩ := h6
  exact ⟨⟨a, b, c, ⟨d, e⟩, ⟨f, g⟩, o⟩, rfl, ho⟩
theorem paths_of {N : Nat} {d : DV} (h : Sh.fits N (.sl pathS) d) : ∃ l : List Path, d = .sl (pathRows l) ∧ l.length ≤ N ∧ ∀ p ∈ l, p.opens.length ≤ N := by
  simp only [Sh.fits] at h
  obtain ⟨rows, rfl, hl, hr⟩ := h
  obtain ⟨l, rfl, hq⟩ := rows_of (row := Path.row) (fun r h => path_of (hr r h))
  exact ⟨l, rfl, by simpa using hl, hq⟩
theorem ruled_of {N : Nat} (hN : N < 2 ^ 30) {r : List DV} (h : Sh.fitsL N ruledS r) : ∃ u : RuledX, r = u.cells ∧ u.net.Small ∧ u.rules.length < 2 ^ 30 := by
  simp only [ruledS, iS] at h
  simp only [Sh.fitsL] at h
  obtain ⟨_, _, rfl, h0, _, _, rfl, h1, _, _, rfl, h2, _, _, rfl, h3, rfl⟩ := h
  obtain ⟨P, rfl, p1, p2⟩ := paths_of h1
  obtain ⟨R, rfl, r1⟩ := rules_of h2
  simp only [Sh.fits] at h0 h3
  obtain ⟨a, rfl, _⟩ := h0
  obtain ⟨b, rfl, _⟩ := h3
  exact ⟨⟨⟨a, P⟩, R, b⟩, rfl, ⟨by show P.length < _; omega, fun x hx => by have := p2 x hx; omega⟩, by show R.length < _; omega⟩
theorem walk_of {N : Nat} (hN : N < 2 ^ 30) {r : List DV} (h : Sh.fitsL N walkS r) : ∃ k : WalkX, r = k.cells ∧ k.seen.length < 2 ^ 30 := by
  unfold walkS at h
  rw [Sh.fitsL] at h
  obtain ⟨x0, _, rfl, h0, h⟩ := h
  obtain ⟨S, rfl, s1⟩ := sights_of h0
  simp only [iS, Sh.fitsL, Sh.fits] at h
  obtain ⟨_, _, rfl, ⟨a, rfl, _⟩, _, _, rfl, ⟨b, rfl, _⟩, _, _, rfl, ⟨c, rfl, _⟩, _, _, rfl, ⟨d, rfl, _⟩, _, _, rfl, ⟨e, rfl, _⟩, _, _, rfl, ⟨f, rfl, _⟩, _, _, rfl, ⟨g, rfl, _⟩, _, _, rfl, ⟨i, rfl, _⟩, _, _, rfl, ⟨j, rfl, _⟩, _, _, rfl, ⟨k, rfl, _⟩, _, _, rfl, ⟨l, rfl, _⟩, _, _, rfl, ⟨m, rfl, _⟩, _, _, rfl, ⟨n, rfl, _⟩, _, _, rfl, ⟨o, rfl, _⟩, rfl⟩ := h
  exact ⟨⟨S, ⟨⟨a, ⟨b, c, d⟩⟩, e, f, g, i⟩, ⟨j, k, ⟨l, m⟩⟩, n, o⟩, rfl, by show S.length < _; omega⟩
theorem ruledSh : shapes Tryz.prog 20 31 = some ruledS := by kernel_rfl
theorem walkSh : shapes Tryz.prog 20 77 = some walkS := by kernel_rfl
theorem fore_of {N : Nat} (hN : N < 2 ^ 30) {r : List DV} (h : Sh.fitsL N foreS r) : ∃ F : List (List Hour), r = [.sl (scenRows F)] ∧ ForeSmall F := by
  unfold foreS at h
  rw [Sh.fitsL] at h
  obtain ⟨x0, _, rfl, h0, h⟩ := h
  rw [Sh.fitsL] at h
  subst h
  obtain ⟨F, rfl, f1, f2⟩ := scens_of h0
  exact ⟨F, rfl, ⟨by omega, fun l hl => by have := f2 l hl; omega⟩⟩
theorem foreSh : shapes Tryz.prog 20 24 = some foreS := by kernel_rfl
theorem bulk_mem {H : Type} : ∀ {l : List (DataW H)} {d : DataW H}, d ∈ l → Rows.uptoBulk d ≤ Rows.uptoBulkAll l
  | x :: r, d, h => by
    simp only [Rows.uptoBulkAll]
    rcases List.mem_cons.1 h with rfl | h
    · omega
    · have := bulk_mem h
      omega
theorem bulk_pos {H : Type} (d : DataW H) : 1 ≤ Rows.uptoBulk d := by
  cases d with
  | lit l => cases l <;> simp [Rows.uptoBulk]
  | _ => simp [Rows.uptoBulk]
theorem bulk_len {H : Type} : ∀ (l : List (DataW H)), l.length ≤ Rows.uptoBulkAll l
  | [] => by simp
  | x :: r => by
    have h1 := bulk_pos x
    have h2 := bulk_len r
    simp only [Rows.uptoBulkAll, List.length_cons]
    omega
theorem bulkOk {H : Type} : BulkOk (Rows.uptoBulk (H := H)) where
  slice := fun elems spare => by
    have := bulk_len elems
    simp only [Rows.uptoBulk]
    omega
  elem := fun elems spare d hd => by
    have := bulk_mem hd
    simp only [Rows.uptoBulk]
    omega
  part := fun parts d hd => by
    have := bulk_mem hd
    simp only [Rows.uptoBulk]
    omega
structure Rd (t : TypeId) (C : DV → Prop) : Prop where
  rec' : Tryz.prog.readableRec t = true
  lt : t < Tryz.prog.types.size
  read : ∀ (H : Type) (enc : TypeId × Value → H) (w : World) (base : Nat) (v : Value) (d : DataW H) (ps : List MemPlace), Value.okWide Tryz.prog w .any base t v → DataW.Trod enc Tryz.prog w 0 (fun _ => true) true t v d ps → Rows.uptoBulk d ≤ 1048576 → ∃ x, C x ∧ DRel w (fun _ => False) x v
theorem agg_read1 {H : Type} {enc : TypeId × Value → H} {w : World} {t : TypeId} {sh : List Sh} {fs : Array Field} {base : Nat} (ht : Tryz.prog.underlying t = some (.struct fs)) (hs : shapes Tryz.prog 20 t = some sh) {v : Value} {d : DataW H} {ps : List MemPlace}
    (hok : Value.okWide Tryz.prog w .any base t v) (h : DataW.Trod enc Tryz.prog w 0 (fun _ => true) true t v d ps) (hd : Rows.uptoBulk d ≤ 1048576) :
    ∃ ds, Sh.fitsL 1048576 sh ds ∧ DRel w (fun _ => False) (.agg ds) v := by
  obtain ⟨cs, rfl, hsz⟩ := okWide_struct ht hok
  obtain ⟨fuel, h⟩ := h
  obtain ⟨hl, ds, hf, hr⟩ := trod_read bulkOk 1048576 20 t sh hs fuel _ _ _ h hd
  have hdl := Sh.fitsL_len hf
  refine ⟨ds, hf, ?_⟩
  simp only [Value.cells] at hl hr
  exact .agg _ _ (by simpa [hdl] using hl.symm) fun i d v h1 h2 => (hr i d v h1 (by simpa using h2)).2
theorem rdFore : Rd 24 (fun x => ∃ F : List (List Hour), x = .agg [.sl (scenRows F)] ∧ ForeSmall F) :=
  ⟨by kernel_rfl, of_decide_eq_true (by kernel_rfl), fun H enc w base v d ps hok h hd => by
    obtain ⟨ds, hf, hr⟩ := agg_read1 Tryz.underlying24 foreSh hok h hd
    obtain ⟨F, rfl, hF⟩ := fore_of (by decide) hf
    exact ⟨_, ⟨F, rfl, hF⟩, hr⟩⟩
theorem rdRuled : Rd 31 (fun x => ∃ u : RuledX, x = .agg u.cells ∧ u.net.Small ∧ u.rules.length < 2 ^ 30) :=
  ⟨by kernel_rfl, of_decide_eq_true (by kernel_rfl), fun H enc w base v d ps hok h hd => by
    obtain ⟨ds, hf, hr⟩ := agg_read1 Tryz.underlying31 ruledSh hok h hd
    obtain ⟨r, rfl, hr'⟩ := ruled_of (by decide) hf
    exact ⟨_, ⟨r, rfl, hr'⟩, hr⟩⟩
theorem rdWalk : Rd 77 (fun x => ∃ k : WalkX, x = .agg k.cells ∧ k.seen.length < 2 ^ 30) :=
  ⟨by kernel_rfl, of_decide_eq_true (by kernel_rfl), fun H enc w base v d ps hok h hd => by
    obtain ⟨ds, hf, hr⟩ := agg_read1 Tryz.underlying77 walkSh hok h hd
    obtain ⟨r, rfl, hr'⟩ := walk_of (by decide) hf
    exact ⟨_, ⟨r, rfl, hr'⟩, hr⟩⟩
abbrev aX : TypeId × (DV → Prop) := (31, fun x => ∃ u : RuledX, x = .agg u.cells ∧ u.net.Small ∧ u.rules.length < 2 ^ 30)
abbrev aQ : TypeId × (DV → Prop) := (61, fun x => ∃ q : QueryX, x = .agg q.cells)
abbrev aK : TypeId × (DV → Prop) := (77, fun x => ∃ k : WalkX, x = .agg k.cells ∧ k.seen.length < 2 ^ 30)
def wideLaid : List (String × DataW Unit) := [("bivouac/weather.wide", .agg [.agg [.lit (.int .i64 200), .lit (.int .i64 100), .agg [.lit (.int .i64 (-50)), .lit (.int .i64 50)]]])]
theorem gWide : Tryz.prog.globalNamed "bivouac/weather.wide" = some 0 := by kernel_rfl
theorem tWide : (Tryz.prog.globals[0]?).map (·.type) = some 124 := by kernel_rfl
theorem hid_of {W : World} (h : laidMetH Tryz.prog wideLaid W) : Hid Tryz.prog W (fun _ => False) := by
  intro _
  rw [MakeChecks.laidMetH_plain _ _ _ (by kernel_rfl)] at h
  obtain ⟨ps, ⟨g0, t0, cs0, f0, p0, q0, hg0, ht0, hv0, hd0, _, _⟩, _, _⟩ := h
  obtain rfl := Option.some.inj (gWide.symm.trans hg0)
  obtain rfl := Option.some.inj (tWide.symm.trans ht0)
  have c106 : Tryz.prog.cellsOf 124 = 4 := by kernel_rfl
  have c30 : Tryz.prog.cellsOf 50 = 4 := by kernel_rfl
  have c28 : Tryz.prog.cellsOf 48 = 2 := by kernel_rfl
  have c3 : Tryz.prog.cellsOf 3 = 1 := by kernel_rfl
  obtain ⟨y0, n0, e0, hl, h1⟩ := Go.ChangeShapes.trod_struct1 Tryz.underlying124 hd0
  obtain ⟨a0, a1, a2, n1, e1, _, k0, k1, k2⟩ := Deep.trod_struct3 Tryz.underlying50 h1
  obtain ⟨b0, b1, n2, e2, _, k3, k4⟩ := Go.ChangeShapes.trod_struct2 Tryz.underlying48 k2
  obtain ⟨i0, q0', r0, _⟩ := DataW.trod_int Tryz.underlying3 k0
  obtain ⟨i1, q1', r1, _⟩ := DataW.trod_int Tryz.underlying3 k1
  obtain ⟨i2, q2', r2, _⟩ := DataW.trod_int Tryz.underlying3 k3
  obtain ⟨i3, q3', r3, _⟩ := DataW.trod_int Tryz.underlying3 k4
  simp only [c106, c30, c28, c3] at hl q0' q1' q2' q3'
  subst r0 r1 r2 r3
  subst e2
  subst e1
  simp only [Prod.mk.injEq, DataW.agg.injEq, List.cons.injEq, and_true, DataW.lit.injEq, Lit.int.injEq, true_and] at e0
  obtain ⟨l0⟩ := cs0
  match l0, hl with
  | [v0, v1, v2, v3], _ =>
    simp at q0' q1' q2' q3'
    subst q0' q1' q2' q3'
    have hc := fun i => World.var?_cell hg0 hv0 i
    obtain ⟨rfl, rfl, rfl, rfl⟩ := e0.1
    refine .ptr [.i 200, .i 100, .i (-50), .i 50] 0 0 0 (fun j => if j = 0 then .int .i64 200 else if j = 1 then .int .i64 100 else if j = 2 then .int .i64 (-50) else .int .i64 50) (fun j d hj => ⟨id, ?_, ?_⟩) (fun j d hj => ?_)
    · have := hc j
      match j, hj with
      | 0, _ => simpa using this
      | 1, _ => simpa using this
      | 2, _ => simpa using this
      | 3, _ => simpa using this
    · match j, hj with
      | 0, _ => rfl
      | 1, _ => rfl
      | 2, _ => rfl
      | 3, _ => rfl
    · match j, hj with
      | 0, hj => cases hj; exact .int ..
      | 1, hj => cases hj; exact .int ..
      | 2, hj => cases hj; exact .int ..
      | 3, hj => cases hj; exact .int ..
def AllC : List (TypeId × (DV → Prop)) → List DV → Prop
  | [], [] => True
  | c :: cs, x :: xs => c.2 x ∧ AllC cs xs
  | _, _ => False
section
variable {H : Type} {enc : TypeId × Value → H} {W : World}
theorem read_all {base : Nat} : ∀ (L : List (TypeId × (DV → Prop))), (∀ c ∈ L, Rd c.1 c.2) → ∀ (vs : List Value) (ds : List (DataW H)) (ps : List MemPlace),
    (∀ (j : Nat) t v, (L.map (·.1))[j]? = some t → vs[j]? = some v → Value.okWide Tryz.prog W .any base t v) →
    DataW.TrodAll enc Tryz.prog W 0 (fun _ => true) true (L.map (·.1)) vs ds ps → Rows.uptoBulkAll ds ≤ 1048576 →
    vs.length = L.length ∧ ds.length = L.length ∧ ∃ xs, AllC L xs ∧ xs.length = L.length ∧ ∀ (i : Nat) x v, xs[i]? = some x → vs[i]? = some v → DRel W (fun _ => False) x v
  | [], _, vs, ds, ps, _, h, _ => by
    obtain ⟨rfl, rfl, rfl⟩ := trodAll_nil h
    exact ⟨rfl, rfl, [], trivial, rfl, fun i x v h => by simp at h⟩
  | c :: L, hc, vs, ds, ps, hval, h, hb => by
    obtain ⟨v, vs', d, ds', p, q, rfl, rfl, rfl, hd, hrest⟩ := trodAll_cons h
    simp only [Rows.uptoBulkAll] at hb
    obtain ⟨x, hx, hr⟩ := (hc c (by simp)).read H enc W base v d p (hval 0 _ v (by simp) (by simp)) hd (by omega)
    obtain ⟨h1, h2, xs, h3, h4, h5⟩ := read_all L (fun c h => hc c (by simp [h])) vs' ds' q (fun j t v h1 h2 => hval (j + 1) t v (by simpa using h1) (by simpa using h2)) hrest (by omega)
    refine ⟨by simp [h1], by simp [h2], x :: xs, ⟨hx, h3⟩, by simp [h4], fun i y w hy hw => ?_⟩
    cases i with
    | zero =>
      simp at hy hw
      subst hy
      subst hw
      exact hr
    | succ i => exact h5 i y w (by simpa using hy) (by simpa using hw)
theorem stay_all {W' : World} {sp : Nat → Bool} : ∀ (L : List (TypeId × (DV → Prop))), (∀ c ∈ L, Rd c.1 c.2) → ∀ (vs : List Value) (ds : List (DataW H)) (ps : List MemPlace),
    DataW.TrodAll enc Tryz.prog W 0 (fun _ => true) true (L.map (·.1)) vs ds ps → (∀ y ∈ ps, y.block < W.heap.size) → Below W.heap.size W W' → (∀ y ∈ ps, sp y.block = true) →
    DataW.TrodAll enc Tryz.prog W' 0 sp true (L.map (·.1)) vs ds ps
  | [], _, vs, ds, ps, h, _, _, _ => by
    obtain ⟨rfl, rfl, rfl⟩ := trodAll_nil h
    exact trodAll_mk0
  | c :: L, hc, vs, ds, ps, h, hlt, hb, hsp => by
    obtain ⟨v, vs', d, ds', p, q, rfl, rfl, rfl, hd, hrest⟩ := trodAll_cons h
    have hrd := hc c (by simp)
    exact ⟨p, q, WideElems.Trod_stays (by kernel_rfl) hrd.rec' hrd.lt hd (fun y hy => hb.same (hlt y (by simp [hy]))) (fun y hy => hsp y (by simp [hy])),
      stay_all L (fun c h => hc c (by simp [h])) vs' ds' q hrest (fun y hy => hlt y (by simp [hy])) hb (fun y hy => hsp y (by simp [hy])), rfl⟩
end
theorem link {f : FuncId} {fn : Func} (L : List (TypeId × (DV → Prop))) (hL : ∀ c ∈ L, Rd c.1 c.2) (hf : ∀ xs, AllC L xs → Fn Tryz.prog f xs (.bool true)) (hfn : fn.params = (L.map (·.1)).toArray) (hr : fn.resultTypes = #[4])
    (s : ChangeSpec) (hv : s.vars = []) (hs : ∀ (H : Type) (ds : List (DataW H)), ds.length = L.length → s.fn H ds = { results := [.lit (.bool true)], args := ds })
    {H : Type} {enc : TypeId × Value → H} {W : World} {args : Array Value} {ds gs : List (DataW H)} {before : List MemPlace}
    {base : Nat} (hval : ∀ (j : Nat) t v, fn.params[j]? = some t → args[j]? = some v → Value.okWide Tryz.prog W .any base t v)
    (hW : DataW.Whole enc Tryz.prog fn.params.toList s.vars false W args.toList ds gs before) (hk : Rows.uptoSmall H (ds ++ gs) = true) (hX : laidMetH Tryz.prog wideLaid W) :
    Calls Tryz.prog f args W fun e W' => ∃ v, e = .returned v ∧ s.post enc Tryz.prog fn false true false false W args v W' := by
  have hW' := hW
  obtain ⟨p, q, hA, hV, rfl, hfz, hnd⟩ := hW
  rw [hfn] at hA
  rw [hv] at hV
  obtain ⟨rfl, rfl⟩ := trodVars_none hV
  have hb := of_decide_eq_true hk
  simp only [List.append_nil] at hb
  obtain ⟨l1, l2, xs, hxs, l3, hrel⟩ := read_all (base := base) L hL _ _ _ (fun j t v h1 h2 => hval j t v (by rw [hfn]; simpa using h1) (by simpa using h2)) hA hb
  have hc := (hf xs hxs).2 W (fun _ => False) args (fun _ h => h.elim) (hid_of hX) ⟨by rw [l3, ← l1]; simp, fun i x v h1 h2 => hrel i x v h1 (by simpa using h2)⟩
  refine hc.mono fun e W' h => ?_
  obtain ⟨v, rfl, hvr, hbel⟩ := h
  cases hvr
  refine ⟨_, rfl, ?_⟩
  have hlt : ∀ y ∈ p, y.block < W.heap.size := fun y hy => hW'.lt y (by simpa using hy)
  have hok : Value.okWide Tryz.prog W' .any 0 4 (.bool true) := okWide_bool_mk (t := 4) Tryz.underlying4 true
  have hsf : s.fn H (ds ++ []) = { results := [.lit (.bool true)], args := ds } := by rw [List.append_nil]; exact hs H ds l2
  refine post_of_below (pa := p) (pv := []) hW' ?_ ?_ ?_ (by simp) hbel ?_
  · intro b sp hd
    rw [hr, hsf]
    exact trodAll_mk1 (shut_bool Tryz.underlying4 _)
  · intro sp hsp
    rw [hfn, hsf]
    exact stay_all L hL _ _ _ hA hlt hbel (fun y hy => hsp y (by simpa using hy))
  · intro sp hsp
    rw [hv, hsf]
    rfl
  · exact ok_one hr rfl hok
abbrev aF : TypeId × (DV → Prop) := (24, fun x => ∃ F : List (List Hour), x = .agg [.sl (scenRows F)] ∧ ForeSmall F)
abbrev aS : TypeId × (DV → Prop) := (25, fun x => ∃ l : List Sight, x = .sl (sightRows l) ∧ l.length < 2 ^ 30)
abbrev aR : TypeId × (DV → Prop) := (52, fun x => ∃ r : RealX, x = .agg r.cells ∧ r.seen.length < 2 ^ 30 ∧ r.skies.length < 2 ^ 30)
abbrev aE : TypeId × (DV → Prop) := (73, fun x => ∃ r : EaseX, x = .agg r.cells)
abbrev aI : TypeId × (DV → Prop) := (3, fun x => ∃ n : Int, x = .i n)
theorem allC3 {c d e : TypeId × (DV → Prop)} {xs : List DV} (h : AllC [c, d, e] xs) : ∃ x y z, xs = [x, y, z] ∧ c.2 x ∧ d.2 y ∧ e.2 z := by
  match xs, h with
  | [x, y, z], h => exact ⟨x, y, z, rfl, h.1, h.2.1, h.2.2.1⟩
end Go.Ab
namespace Go.Ab
open Go.RowKit Go.Proofs
set_option maxHeartbeats 8000000
set_option maxRecDepth 20000
attribute [local irreducible] WalkL Walk
def crE (n : Net) (rules : List Rule) (F : List (List Hour)) (seen : List Sight) (t : Bool) : Int :=
  if foreF F ≠ 0 then foreF F else if checkF n ≠ 0 then checkF n else lookF F seen (if badRules n rules then 53 else 0) t
theorem ruledE_cr (n : Net) (rules : List Rule) (F : List (List Hour)) (seen : List Sight) (p : Int) : ruledE n rules F seen p = crE n rules F seen (withinB p (-1) ((n.paths.length : Int) - 1)) := rfl
theorem f19 (n : Net) (rules : List Rule) (F : List (List Hour)) (seen : List Sight) (t : Bool) (hn : n.Small) (hr : rules.length < 2 ^ 30) (hs : ForeSmall F) (hsl : seen.length < 2 ^ 30) :
    Fn Tryz.prog 19 [.agg n.cells, .sl (ruleRows rules), .agg [.sl (scenRows F)], .sl (sightRows seen), .bool t] (.i (crE n rules F seen t)) := by
  have h35 := f35 F hs
  have h42 := f42 n hn
  have h54 := f54 F seen hs hsl
  have h56 := f56 n rules hn hr
  rw [Net.cells_eq] at h42 h56
  unfold foreF at h35
  unfold crE foreF
  cases hb : badF F
  · rw [hb] at h35
    simp only [Bool.false_eq_true, if_false] at h35
    simp only [Bool.false_eq_true, if_false, ne_eq, not_true_eq_false]
    obtain ⟨c, hc⟩ : ∃ c, c = checkF n := ⟨_, rfl⟩
    rw [← hc] at h42 ⊢
    by_cases hc0 : c = 0
    · have zc : (c != 0) = false := by simp [hc0]
      rw [if_neg (by simp [hc0])]
      unfold lookF
      unfold seenF at h54
      rw [hb] at h54 ⊢
      simp only [Bool.false_eq_true, if_false] at h54 ⊢
      cases hq : sightsB (hd0 F).length seen
      · rw [hq] at h54
        simp only [Bool.false_eq_true, if_false] at h54 ⊢
        refine fn_walk 38 Tryz.call19 Tryz.func19 rfl (by decide) fun J => ?_
        simp (maxSteps := 4000000) only [go_sem, St.start, Tryz.ntmps19, Tryz.results19, Net.cells_eq]
        repeat (first | refine walkL_true rfl ?_ | refine walkL_false rfl ?_ | refine walkL_seq ?_ | refine walkL_skip ?_ | refine walkL_block ?_ | (refine walkL_region fun K hK => ?_; simp (maxSteps := 4000000) only [go_sem, zc]; (repeat (first | (refine ⟨_, .lent (hf := h35) (hd := rfl) (hr := rfl), ?_⟩; simp (maxSteps := 4000000) only [go_sem, zc]) | (refine ⟨_, .lent (hf := h42) (hd := rfl) (hr := rfl), ?_⟩; simp (maxSteps := 4000000) only [go_sem, zc]) | (refine ⟨_, .lent (hf := h54) (hd := rfl) (hr := rfl), ?_⟩; simp (maxSteps := 4000000) only [go_sem, zc]) | (refine ⟨_, .given (hf := h35) (hd := rfl) (ha := rfl), ?_⟩; simp (maxSteps := 4000000) only [go_sem, zc]) | (refine ⟨_, .given (hf := h42) (hd := rfl) (ha := rfl), ?_⟩; simp (maxSteps := 4000000) only [go_sem, zc]) | (refine ⟨_, .given (hf := h54) (hd := rfl) (ha := rfl), ?_⟩; simp (maxSteps := 4000000) only [go_sem, zc]))); refine hK _ ?_; clear hK K) | refine walkL_nil ?_ | refine walkL_ret ?_ | refine walkL_exit ?_ | refine blockA_here ?_ | refine blockA_other rfl ?_ | refine blockA_ret ?_ | refine blockA_normal ?_ | refine thenA_ret ?_ | refine thenA_exit ?_ | refine thenA_normal ?_)
        simp (maxSteps := 4000000) only [go_sem]
      · rw [hq] at h54
        simp only [if_true] at h54 ⊢
        cases hbr : badRules n rules
        · rw [hbr] at h56
          simp only [Bool.false_eq_true, if_false, if_true]
          cases t
          · simp only [Bool.false_eq_true, if_false]
            refine fn_walk 38 Tryz.call19 Tryz.func19 rfl (by decide) fun J => ?_
            simp (maxSteps := 4000000) only [go_sem, St.start, Tryz.ntmps19, Tryz.results19, Net.cells_eq]
            repeat (first | refine walkL_true rfl ?_ | refine walkL_false rfl ?_ | refine walkL_seq ?_ | refine walkL_skip ?_ | refine walkL_block ?_ | (refine walkL_region fun K hK => ?_; simp (maxSteps := 4000000) only [go_sem, zc]; (repeat (first | (refine ⟨_, .lent (hf := h35) (hd := rfl) (hr := rfl), ?_⟩; simp (maxSteps := 4000000) only [go_sem, zc]) | (refine ⟨_, .lent (hf := h42) (hd := rfl) (hr := rfl), ?_⟩; simp (maxSteps := 4000000) only [go_sem, zc]) | (refine ⟨_, .lent (hf := h54) (hd := rfl) (hr := rfl), ?_⟩; simp (maxSteps := 4000000) only [go_sem, zc]) | (refine ⟨_, .lent (hf := h56) (hd := rfl) (hr := rfl), ?_⟩; simp (maxSteps := 4000000) only [go_sem, zc]) | (refine ⟨_, .given (hf := h35) (hd := rfl) (ha := rfl), ?_⟩; simp (maxSteps := 4000000) only [go_sem, zc]) | (refine ⟨_, .given (hf := h42) (hd := rfl) (ha := rfl), ?_⟩; simp (maxSteps := 4000000) only [go_sem, zc]) | (refine ⟨_, .given (hf := h54) (hd := rfl) (ha := rfl), ?_⟩; simp (maxSteps := 4000000) only [go_sem, zc]) | (refine ⟨_, .given (hf := h56) (hd := rfl) (ha := rfl), ?_⟩; simp (maxSteps := 4000000) only [go_sem, zc]))); refine hK _ ?_; clear hK K) | refine walkL_nil ?_ | refine walkL_ret ?_ | refine walkL_exit ?_ | refine blockA_here ?_ | refine blockA_other rfl ?_ | refine blockA_ret ?_ | refine blockA_normal ?_ | refine thenA_ret ?_ | refine thenA_exit ?_ | refine thenA_normal ?_)
            simp (maxSteps := 4000000) only [go_sem]
          · simp only [if_true]
            have h57 := f57 F seen (fore_iff.1 hb) hq
            cases hp : possL F seen with
            | nil =>
              have e0 : intRows (numsOf []) = [] := rfl
              rw [hp, e0] at h57
              simp only [List.isEmpty_nil, if_true]
              refine fn_walk 38 Tryz.call19 Tryz.func19 rfl (by decide) fun J => ?_
              simp (maxSteps := 4000000) only [go_sem, St.start, Tryz.ntmps19, Tryz.results19, Net.cells_eq]
              repeat (first | refine walkL_true rfl ?_ | refine walkL_false rfl ?_ | refine walkL_seq ?_ | refine walkL_skip ?_ | refine walkL_block ?_ | (refine walkL_region fun K hK => ?_; simp (maxSteps := 4000000) only [go_sem, zc]; (repeat (first | (refine ⟨_, .lent (hf := h35) (hd := rfl) (hr := rfl), ?_⟩; simp (maxSteps := 4000000) only [go_sem, zc]) | (refine ⟨_, .lent (hf := h42) (hd := rfl) (hr := rfl), ?_⟩; simp (maxSteps := 4000000) only [go_sem, zc]) | (refine ⟨_, .lent (hf := h54) (hd := rfl) (hr := rfl), ?_⟩; simp (maxSteps := 4000000) only [go_sem, zc]) | (refine ⟨_, .lent (hf := h56) (hd := rfl) (hr := rfl), ?_⟩; simp (maxSteps := 4000000) only [go_sem, zc]) | (refine ⟨_, .lent (hf := h57) (hd := rfl) (hr := rfl), ?_⟩; simp (maxSteps := 4000000) only [go_sem, zc]) | (refine ⟨_, .given (hf := h35) (hd := rfl) (ha := rfl), ?_⟩; simp (maxSteps := 4000000) only [go_sem, zc]) | (refine ⟨_, .given (hf := h42) (hd := rfl) (ha := rfl), ?_⟩; simp (maxSteps := 4000000) only [go_sem, zc]) | (refine ⟨_, .given (hf := h54) (hd := rfl) (ha := rfl), ?_⟩; simp (maxSteps := 4000000) only [go_sem, zc]) | (refine ⟨_, .given (hf := h56) (hd := rfl) (ha := rfl), ?_⟩; simp (maxSteps := 4000000) only [go_sem, zc]) | (refine ⟨_, .given (hf := h57) (hd := rfl) (ha := rfl), ?_⟩; simp (maxSteps := 4000000) only [go_sem, zc]))); refine hK _ ?_; clear hK K) | refine walkL_nil ?_ | refine walkL_ret ?_ | refine walkL_exit ?_ | refine blockA_here ?_ | refine blockA_other rfl ?_ | refine blockA_ret ?_ | refine blockA_normal ?_ | refine thenA_ret ?_ | refine thenA_exit ?_ | refine thenA_normal ?_)
              simp (maxSteps := 4000000) only [go_sem]
            | cons a l =>
              have hnl : ((numsOf (a :: l)).length : Int) = (l.length : Int) + 1 := by simp [numsOf]
              have hz : (((numsOf (a :: l)).length : Int) == 0) = false := by
                have : ¬ ((numsOf (a :: l)).length : Int) = 0 := by omega
                simpa using this
              rw [hp] at h57
              obtain ⟨L, hL⟩ : ∃ L, L = numsOf (a :: l) := ⟨_, rfl⟩
              rw [← hL] at h57 hz
              simp only [List.isEmpty_cons, Bool.false_eq_true, if_false]
              refine fn_walk 38 Tryz.call19 Tryz.func19 rfl (by decide) fun J => ?_
              simp (maxSteps := 4000000) only [go_sem, St.start, Tryz.ntmps19, Tryz.results19, Net.cells_eq]
              repeat (first | refine walkL_true rfl ?_ | refine walkL_false rfl ?_ | refine walkL_seq ?_ | refine walkL_skip ?_ | refine walkL_block ?_ | (refine walkL_region fun K hK => ?_; simp (maxSteps := 4000000) only [go_sem, zc, hz, intRows_len]; (repeat (first | (refine ⟨_, .lent (hf := h35) (hd := rfl) (hr := rfl), ?_⟩; simp (maxSteps := 4000000) only [go_sem, zc, hz, intRows_len]) | (refine ⟨_, .lent (hf := h42) (hd := rfl) (hr := rfl), ?_⟩; simp (maxSteps := 4000000) only [go_sem, zc, hz, intRows_len]) | (refine ⟨_, .lent (hf := h54) (hd := rfl) (hr := rfl), ?_⟩; simp (maxSteps := 4000000) only [go_sem, zc, hz, intRows_len]) | (refine ⟨_, .lent (hf := h56) (hd := rfl) (hr := rfl), ?_⟩; simp (maxSteps := 4000000) only [go_sem, zc, hz, intRows_len]) | (refine ⟨_, .lent (hf := h57) (hd := rfl) (hr := rfl), ?_⟩; simp (maxSteps := 4000000) only [go_sem, zc, hz, intRows_len]) | (refine ⟨_, .given (hf := h35) (hd := rfl) (ha := rfl), ?_⟩; simp (maxSteps := 4000000) only [go_sem, zc, hz, intRows_len]) | (refine ⟨_, .given (hf := h42) (hd := rfl) (ha := rfl), ?_⟩; simp (maxSteps := 4000000) only [go_sem, zc, hz, intRows_len]) | (refine ⟨_, .given (hf := h54) (hd := rfl) (ha := rfl), ?_⟩; simp (maxSteps := 4000000) only [go_sem, zc, hz, intRows_len]) | (refine ⟨_, .given (hf := h56) (hd := rfl) (ha := rfl), ?_⟩; simp (maxSteps := 4000000) only [go_sem, zc, hz, intRows_len]) | (refine ⟨_, .given (hf := h57) (hd := rfl) (ha := rfl), ?_⟩; simp (maxSteps := 4000000) only [go_sem, zc, hz, intRows_len]))); refine hK _ ?_; clear hK K) | refine walkL_nil ?_ | refine walkL_ret ?_ | refine walkL_exit ?_ | refine blockA_here ?_ | refine blockA_other rfl ?_ | refine blockA_ret ?_ | refine blockA_normal ?_ | refine thenA_ret ?_ | refine thenA_exit ?_ | refine thenA_normal ?_)
              simp (maxSteps := 4000000) only [go_sem]
        · rw [hbr] at h56
          rw [if_pos rfl, if_neg (by decide)]
          refine fn_walk 38 Tryz.call19 Tryz.func19 rfl (by decide) fun J => ?_
          simp (maxSteps := 4000000) only [go_sem, St.start, Tryz.ntmps19, Tryz.results19, Net.cells_eq]
          repeat (first | refine walkL_true rfl ?_ | refine walkL_false rfl ?_ | refine walkL_seq ?_ | refine walkL_skip ?_ | refine walkL_block ?_ | (refine walkL_region fun K hK => ?_; simp (maxSteps := 4000000) only [go_sem, zc]; (repeat (first | (refine ⟨_, .lent (hf := h35) (hd := rfl) (hr := rfl), ?_⟩; simp (maxSteps := 4000000) only [go_sem, zc]) | (refine ⟨_, .lent (hf := h42) (hd := rfl) (hr := rfl), ?_⟩; simp (maxSteps := 4000000) only [go_sem, zc]) | (refine ⟨_, .lent (hf := h54) (hd := rfl) (hr := rfl), ?_⟩; simp (maxSteps := 4000000) only [go_sem, zc]) | (refine ⟨_, .lent (hf := h56) (hd := rfl) (hr := rfl), ?_⟩; simp (maxSteps := 4000000) only [go_sem, zc]) | (refine ⟨_, .given (hf := h35) (hd := rfl) (ha := rfl), ?_⟩; simp (maxSteps := 4000000) only [go_sem, zc]) | (refine ⟨_, .given (hf := h42) (hd := rfl) (ha := rfl), ?_⟩; simp (maxSteps := 4000000) only [go_sem, zc]) | (refine ⟨_, .given (hf := h54) (hd := rfl) (ha := rfl), ?_⟩; simp (maxSteps := 4000000) only [go_sem, zc]) | (refine ⟨_, .given (hf := h56) (hd := rfl) (ha := rfl), ?_⟩; simp (maxSteps := 4000000) only [go_sem, zc]))); refine hK _ ?_; clear hK K) | refine walkL_nil ?_ | refine walkL_ret ?_ | refine walkL_exit ?_ | refine blockA_here ?_ | refine blockA_other rfl ?_ | refine blockA_ret ?_ | refine blockA_normal ?_ | refine thenA_ret ?_ | refine thenA_exit ?_ | refine thenA_normal ?_)
          simp (maxSteps := 4000000) only [go_sem]
    · have zc : (c != 0) = true := by simpa using hc0
      rw [if_pos hc0]
      refine fn_walk 38 Tryz.call19 Tryz.func19 rfl (by decide) fun J => ?_
      simp (maxSteps := 4000000) only [go_sem, St.start, Tryz.ntmps19, Tryz.results19, Net.cells_eq]
      repeat (first | refine walkL_true rfl ?_ | refine walkL_false rfl ?_ | refine walkL_seq ?_ | refine walkL_skip ?_ | refine walkL_block ?_ | (refine walkL_region fun K hK => ?_; simp (maxSteps := 4000000) only [go_sem, zc]; (repeat (first | (refine ⟨_, .lent (hf := h35) (hd := rfl) (hr := rfl), ?_⟩; simp (maxSteps := 4000000) only [go_sem, zc]) | (refine ⟨_, .lent (hf := h42) (hd := rfl) (hr := rfl), ?_⟩; simp (maxSteps := 4000000) only [go_sem, zc]) | (refine ⟨_, .given (hf := h35) (hd := rfl) (ha := rfl), ?_⟩; simp (maxSteps := 4000000) only [go_sem, zc]) | (refine ⟨_, .given (hf := h42) (hd := rfl) (ha := rfl), ?_⟩; simp (maxSteps := 4000000) only [go_sem, zc]))); refine hK _ ?_; clear hK K) | refine walkL_nil ?_ | refine walkL_ret ?_ | refine walkL_exit ?_ | refine blockA_here ?_ | refine blockA_other rfl ?_ | refine blockA_ret ?_ | refine blockA_normal ?_ | refine thenA_ret ?_ | refine thenA_exit ?_ | refine thenA_normal ?_)
      simp (maxSteps := 4000000) only [go_sem]
  · rw [hb] at h35
    simp only [if_true] at h35
    simp only [if_true]
    rw [if_pos (by decide)]
    refine fn_walk 38 Tryz.call19 Tryz.func19 rfl (by decide) fun J => ?_
    simp (maxSteps := 4000000) only [go_sem, St.start, Tryz.ntmps19, Tryz.results19, Net.cells_eq]
    repeat (first | refine walkL_true rfl ?_ | refine walkL_false rfl ?_ | refine walkL_seq ?_ | refine walkL_skip ?_ | refine walkL_block ?_ | (refine walkL_region fun K hK => ?_; simp (maxSteps := 4000000) only [go_sem]; (repeat (first | (refine ⟨_, .lent (hf := h35) (hd := rfl) (hr := rfl), ?_⟩; simp (maxSteps := 4000000) only [go_sem]) | (refine ⟨_, .given (hf := h35) (hd := rfl) (ha := rfl), ?_⟩; simp (maxSteps := 4000000) only [go_sem]))); refine hK _ ?_; clear hK K) | refine walkL_nil ?_ | refine walkL_ret ?_ | refine walkL_exit ?_ | refine blockA_here ?_ | refine blockA_other rfl ?_ | refine blockA_ret ?_ | refine blockA_normal ?_ | refine thenA_ret ?_ | refine thenA_exit ?_ | refine thenA_normal ?_)
    simp (maxSteps := 4000000) only [go_sem]
def opnF (n : Net) (rules : List Rule) (F : List (List Hour)) (seen : List Sight) (p : Int) : List Span × List Span × Int :=
  if ruledE n rules F seen (if p < 0 then 24 else p) = 0 then (openS (ofPath rules (if p < 0 then 24 else p)) (scensOf (possL F seen)) (hd0 F).length, openM (ofPath rules (if p < 0 then 24 else p)) (scensOf (possL F seen)) (hd0 F).length, 0) else ([], [], ruledE n rules F seen (if p < 0 then 24 else p))
theorem f12o (n : Net) (rules : List Rule) (F : List (List Hour)) (seen : List Sight) (p : Int) (hn : n.Small) (hr : rules.length < 2 ^ 30) (hs : ForeSmall F) (hsl : seen.length < 2 ^ 30) :
    Fn Tryz.prog 12 [.agg n.cells, .sl (ruleRows rules), .agg [.sl (scenRows F)], .sl (sightRows seen), .i p] (.tup [.sl (spanRows (opnF n rules F seen p).1), .sl (spanRows (opnF n rules F seen p).2.1), .i (opnF n rules F seen p).2.2]) := by
  have key : ∀ q : Int, q = (if p < 0 then 24 else p) → Fn Tryz.prog 12 [.agg n.cells, .sl (ruleRows rules), .agg [.sl (scenRows F)], .sl (sightRows seen), .i p] (.tup [.sl (spanRows (opnF n rules F seen p).1), .sl (spanRows (opnF n rules F seen p).2.1), .i (opnF n rules F seen p).2.2]) := by
    intro q hq
    have h40 := f40 n rules F seen q hn hr hs hsl
    unfold opnF
    rw [← hq]
    rw [Net.cells_eq] at h40
    obtain ⟨e, he⟩ : ∃ e, e = ruledE n rules F seen q := ⟨_, rfl⟩
    rw [← he] at h40 ⊢
    have qp : (decide (p < 0) = true ∧ q = 24) ∨ (decide (p < 0) = false ∧ q = p) := by
      by_cases hp : p < 0
      · rw [if_pos hp] at hq
        exact .inl ⟨decide_eq_true hp, hq⟩
      · rw [if_neg hp] at hq
        exact .inr ⟨decide_eq_false hp, hq⟩
    by_cases h0 : e = 0
    · rw [if_pos h0, lookV_out] at h40
      rw [if_pos h0]
      have hz : (e != 0) = false := by simp [h0]
      obtain ⟨hg, hsi, hne, hbn, hbr, _⟩ := ruled_all (he.symm.trans h0)
      obtain ⟨hrl, hro⟩ := rules_ok hbr
      have hall := scens_all (seen := seen) hg
      have hSl := scens_short (F := F) (seen := seen)
      have hH := hg.hours
      have hF := hg.scen
      have h41 := f41 (numsOf (possL F seen)) (scensOf (possL F seen)) (hd0 F).length (ofPath rules q) (fun x hx => (hro x (ofPath_sub x hx)).2.1) hall (by omega) (by omega) (by have := ofPath_len (rules := rules) (p := q); omega)
      obtain ⟨A, hA⟩ : ∃ A, A = openS (ofPath rules q) (scensOf (possL F seen)) (hd0 F).length := ⟨_, rfl⟩
      obtain ⟨B, hB⟩ : ∃ B, B = openM (ofPath rules q) (scensOf (possL F seen)) (hd0 F).length := ⟨_, rfl⟩
      rw [← hA, ← hB] at h41 ⊢
      rw [outV] at h40 h41
      rcases qp with ⟨q1, rfl⟩ | ⟨q1, rfl⟩
      all_goals
        refine fn_walk 35 Tryz.call12 Tryz.func12 rfl (by decide) fun J => ?_
        simp (maxSteps := 4000000) only [go_sem, St.start, Tryz.ntmps12, Tryz.results12, Net.cells_eq]
        repeat (first | refine walkL_true rfl ?_ | refine walkL_false rfl ?_ | refine walkL_seq ?_ | refine walkL_skip ?_ | refine walkL_block ?_ | (refine walkL_region fun K hK => ?_; simp (maxSteps := 4000000) only [go_sem, q1, hz]; (repeat (first | (refine ⟨_, .lent (hf := h40) (hd := rfl) (hr := rfl), ?_⟩; simp (maxSteps := 4000000) only [go_sem, q1, hz]) | (refine ⟨_, .lent (hf := h41) (hd := rfl) (hr := rfl), ?_⟩; simp (maxSteps := 4000000) only [go_sem, q1, hz]) | (refine ⟨_, .given (hf := h40) (hd := rfl) (ha := rfl), ?_⟩; simp (maxSteps := 4000000) only [go_sem, q1, hz]) | (refine ⟨_, .given (hf := h41) (hd := rfl) (ha := rfl), ?_⟩; simp (maxSteps := 4000000) only [go_sem, q1, hz]))); refine hK _ ?_; clear hK K) | refine walkL_nil ?_ | refine walkL_ret ?_ | refine walkL_exit ?_ | refine blockA_here ?_ | refine blockA_other rfl ?_ | refine blockA_ret ?_ | refine blockA_normal ?_ | refine thenA_ret ?_ | refine thenA_exit ?_ | refine thenA_normal ?_)
        simp (maxSteps := 4000000) only [go_sem]
    · rw [if_neg h0] at h40
      rw [if_neg h0]
      have hz : (e != 0) = true := by simpa using h0
      have e0 : spanRows [] = [] := rfl
      rcases qp with ⟨q1, rfl⟩ | ⟨q1, rfl⟩
      all_goals
        refine fn_walk 35 Tryz.call12 Tryz.func12 rfl (by decide) fun J => ?_
        simp (maxSteps := 4000000) only [go_sem, St.start, Tryz.ntmps12, Tryz.results12, Net.cells_eq]
        repeat (first | refine walkL_true rfl ?_ | refine walkL_false rfl ?_ | refine walkL_seq ?_ | refine walkL_skip ?_ | refine walkL_block ?_ | (refine walkL_region fun K hK => ?_; simp (maxSteps := 4000000) only [go_sem, q1, hz]; (repeat (first | (refine ⟨_, .lent (hf := h40) (hd := rfl) (hr := rfl), ?_⟩; simp (maxSteps := 4000000) only [go_sem, q1, hz]) | (refine ⟨_, .given (hf := h40) (hd := rfl) (ha := rfl), ?_⟩; simp (maxSteps := 4000000) only [go_sem, q1, hz]))); refine hK _ ?_; clear hK K) | refine walkL_nil ?_ | refine walkL_ret ?_ | refine walkL_exit ?_ | refine blockA_here ?_ | refine blockA_other rfl ?_ | refine blockA_ret ?_ | refine blockA_normal ?_ | refine thenA_ret ?_ | refine thenA_exit ?_ | refine thenA_normal ?_)
        simp (maxSteps := 4000000) only [go_sem, e0]
  exact key _ rfl
def ruleOk (m : List Sky) (p : Int) (h : Nat) (r : Rule) : Bool := !(r.path == p) || (List.range (h + 1)).all fun b => !(decide ((h : Int) - r.after ≤ (b : Int))) || keptB (skyAt m b) r.lim
theorem isOpenF_eq (rules : List Rule) (m : List Sky) (p : Int) (h : Nat) : isOpenF rules m p h = rules.all (ruleOk m p h) := rfl
theorem all_take_s {α : Type} {l : List α} {q : α → Bool} {i : Nat} {x : α} (h : l[i]? = some x) (h0 : (l.take i).all q = true) (hq : q x = true) : (l.take (i + 1)).all q = true := by
  rw [List.take_add_one, h]
  simp [hq]
  simpa using h0
theorem f20 (rules : List Rule) (m : List Sky) (p : Int) (h : Nat) (hh : h < m.length) (hm : m.length < 2 ^ 30) (hr : rules.length < 2 ^ 30) (ha : ∀ r ∈ rules, 0 ≤ r.after ∧ r.after ≤ 48) :
    Fn Tryz.prog 20 [.sl (ruleRows rules), .sl (skyRows m), .i p, .i h] (.bool (isOpenF rules m p h)) := by
  rw [isOpenF_eq]
  refine fn_walk 48 Tryz.call20 Tryz.func20 rfl (by decide) fun J => ?_
  simp (maxSteps := 4000000) only [go_sem, St.start, Tryz.ntmps20, Tryz.results20]
  repeat (first | refine walkL_seq ?_ | refine walkL_skip ?_ | refine walkL_block ?_ | (refine walkL_region fun K hK => ?_; simp (maxSteps := 4000000) only [go_sem]; refine hK _ ?_; clear hK K) | refine walkL_nil ?_ | refine walkL_ret ?_ | refine walkL_exit ?_ | refine blockA_here ?_ | refine blockA_other rfl ?_ | refine blockA_ret ?_ | refine blockA_normal ?_ | refine thenA_ret ?_ | refine thenA_exit ?_ | refine thenA_normal ?_)
  refine walkL_loopS (fun (i : Nat) => [(9, .d (.i i)), (10, .undef)]) (fun _ => []) (fun i => i ≤ rules.length ∧ (rules.take i).all (ruleOk m p h) = true) (fun i => rules.length - i) 0 ?_ ⟨Nat.zero_le _, by simp⟩ ?_
  · simp (maxSteps := 4000000) only [go_sem]
    refine weak_of [] ?_ ?_ rfl rfl <;> simp [lessT, lessM, lessB, AV.less]
    all_goals first | done | rfl
  · intro i ⟨hi, hall⟩
    simp (maxSteps := 4000000) only [go_sem]
    repeat (first | refine walkL_seq ?_ | refine walkL_skip ?_ | refine walkL_block ?_ | (refine walkL_region fun K hK => ?_; simp (maxSteps := 4000000) only [go_sem, ruleRows_len]; refine hK _ ?_; clear hK K) | refine walkL_nil ?_ | refine walkL_ret ?_ | refine walkL_exit ?_ | refine blockA_here ?_ | refine blockA_other rfl ?_ | refine blockA_ret ?_ | refine blockA_normal ?_ | refine thenA_ret ?_ | refine thenA_exit ?_ | refine thenA_normal ?_)
    refine walkL_cond rfl (fun hb => ?_) (fun hb => ?_)
    · have hlt : i < rules.length := by simpa using hb
      have hw : IntKind.i64.wrap ((i : Int) + 1) = ((i + 1 : Nat) : Int) := by rw [wr_small (by omega)]; simp
      obtain ⟨r, hx⟩ : ∃ r, rules[i]? = some r := ⟨_, List.getElem?_eq_getElem hlt⟩
      have g1 := ruleRows_get hx
      rw [Rule.row] at g1
      have hra := ha r (List.mem_of_getElem? hx)
      cases qp : (r.path != p)
      · have hpp : (r.path == p) = true := by simpa using qp
        have w1 : IntKind.i64.wrap ((h : Int) - r.after) = (h : Int) - r.after := wr_small (by omega)
        obtain ⟨s0, hs0⟩ : ∃ s0 : Nat, max 0 ((h : Int) - r.after) = (s0 : Int) := ⟨(max 0 ((h : Int) - r.after)).toNat, by omega⟩
        have hs0h : s0 ≤ h := by omega
        repeat (first | refine walkL_true rfl ?_ | refine walkL_false rfl ?_ | refine walkL_seq ?_ | refine walkL_skip ?_ | refine walkL_block ?_ | (refine walkL_region fun K hK => ?_; simp (maxSteps := 4000000) only [go_sem, g1, qp, w1, hs0, ruleRows_len]; refine hK _ ?_; clear hK K) | refine walkL_nil ?_ | refine walkL_ret ?_ | refine walkL_exit ?_ | refine blockA_here ?_ | refine blockA_other rfl ?_ | refine blockA_ret ?_ | refine blockA_normal ?_ | refine thenA_ret ?_ | refine thenA_exit ?_ | refine thenA_normal ?_)
        refine walkL_loopS (fun (b : Nat) => [(10, .d (.i b))]) (fun _ => []) (fun b => (s0 ≤ b ∧ b ≤ h + 1) ∧ ∀ b', s0 ≤ b' → b' < b → keptB (skyAt m b') r.lim = true) (fun b => h + 1 - b) s0 ?_ ⟨⟨Nat.le_refl _, by omega⟩, fun b' h1 h2 => by omega⟩ ?_
        · simp (maxSteps := 4000000) only [go_sem]
          refine weak_of [] ?_ ?_ rfl rfl <;> simp [lessT, lessM, lessB, AV.less]
          all_goals first | done | rfl
        · intro b ⟨⟨hb1, hb2⟩, hk⟩
          simp (maxSteps := 4000000) only [go_sem]
          repeat (first | refine walkL_seq ?_ | refine walkL_skip ?_ | refine walkL_block ?_ | (refine walkL_region fun K hK => ?_; simp (maxSteps := 4000000) only [go_sem]; refine hK _ ?_; clear hK K) | refine walkL_nil ?_ | refine walkL_ret ?_ | refine walkL_exit ?_ | refine blockA_here ?_ | refine blockA_other rfl ?_ | refine blockA_ret ?_ | refine blockA_normal ?_ | refine thenA_ret ?_ | refine thenA_exit ?_ | refine thenA_normal ?_)
          refine walkL_cond rfl (fun hb => ?_) (fun hb => ?_)
          · have hbh : b ≤ h := by have := of_decide_eq_true hb; omega
            have hwb : IntKind.i64.wrap ((b : Int) + 1) = ((b + 1 : Nat) : Int) := by rw [wr_small (by omega)]; simp
            have g2 := skyRows_at (skyAt_get (l := m) (i := b) (by omega))
            have h58 := f58 (skyAt m b) r.lim
            cases qk : keptB (skyAt m b) r.lim
            · have e : rules.all (ruleOk m p h) = false := by
                rw [List.all_eq_false]
                refine ⟨r, List.mem_of_getElem? hx, ?_⟩
                unfold ruleOk
                rw [hpp]
                simp only [Bool.not_true, Bool.false_or, Bool.not_eq_true]
                rw [List.all_eq_false]
                refine ⟨b, by simp; omega, ?_⟩
                rw [qk, decide_eq_true (show (h : Int) - r.after ≤ (b : Int) by omega)]
                decide
              rw [e]
              rw [qk] at h58
              obtain ⟨s, hse⟩ : ∃ s, s = skyAt m b := ⟨_, rfl⟩
              rw [← hse] at g2 h58
              rw [Sky.row] at g2 h58
              rw [Limits.row] at h58
              repeat (first | refine walkL_true rfl ?_ | refine walkL_false rfl ?_ | refine walkL_seq ?_ | refine walkL_skip ?_ | refine walkL_block ?_ | (refine walkL_region fun K hK => ?_; simp (maxSteps := 4000000) only [go_sem, g1, g2, ruleRows_len, skyRows_len]; (repeat (first | (refine ⟨_, .lent (hf := h58) (hd := rfl) (hr := rfl), ?_⟩; simp (maxSteps := 4000000) only [go_sem, g1, g2, ruleRows_len, skyRows_len]) | (refine ⟨_, .given (hf := h58) (hd := rfl) (ha := rfl), ?_⟩; simp (maxSteps := 4000000) only [go_sem, g1, g2, ruleRows_len, skyRows_len]))); refine hK _ ?_; clear hK K) | (refine walkL_drawn (by kernel_rfl) (by kernel_rfl) fun K hK => ?_; simp (maxSteps := 4000000) only [go_sem, g1, g2, ruleRows_len, skyRows_len]; (repeat (first | (refine ⟨_, .fn (hf := h58) (hd := rfl) (hr := .inl rfl), ?_⟩; simp (maxSteps := 4000000) only [go_sem, g1, g2, ruleRows_len, skyRows_len]))); refine ⟨by kernel_rfl, hK _ ?_⟩; clear hK K) | refine walkL_nil ?_ | refine walkL_ret ?_ | refine walkL_exit ?_ | refine blockA_here ?_ | refine blockA_other rfl ?_ | refine blockA_ret ?_ | refine blockA_normal ?_ | refine thenA_ret ?_ | refine thenA_exit ?_ | refine thenA_normal ?_)
              simp (maxSteps := 4000000) only [go_sem]
            · rw [qk] at h58
              obtain ⟨s, hse⟩ : ∃ s, s = skyAt m b := ⟨_, rfl⟩
              rw [← hse] at g2 h58 qk
              rw [Sky.row] at g2 h58
              rw [Limits.row] at h58
              repeat (first | refine walkL_true rfl ?_ | refine walkL_false rfl ?_ | refine walkL_seq ?_ | refine walkL_skip ?_ | refine walkL_block ?_ | (refine walkL_region fun K hK => ?_; simp (maxSteps := 4000000) only [go_sem, g1, g2, hwb, ruleRows_len, skyRows_len]; (repeat (first | (refine ⟨_, .lent (hf := h58) (hd := rfl) (hr := rfl), ?_⟩; simp (maxSteps := 4000000) only [go_sem, g1, g2, hwb, ruleRows_len, skyRows_len]) | (refine ⟨_, .given (hf := h58) (hd := rfl) (ha := rfl), ?_⟩; simp (maxSteps := 4000000) only [go_sem, g1, g2, hwb, ruleRows_len, skyRows_len]))); refine hK _ ?_; clear hK K) | (refine walkL_drawn (by kernel_rfl) (by kernel_rfl) fun K hK => ?_; simp (maxSteps := 4000000) only [go_sem, g1, g2, hwb, ruleRows_len, skyRows_len]; (repeat (first | (refine ⟨_, .fn (hf := h58) (hd := rfl) (hr := .inl rfl), ?_⟩; simp (maxSteps := 4000000) only [go_sem, g1, g2, hwb, ruleRows_len, skyRows_len]))); refine ⟨by kernel_rfl, hK _ ?_⟩; clear hK K) | refine walkL_nil ?_ | refine walkL_ret ?_ | refine walkL_exit ?_ | refine blockA_here ?_ | refine blockA_other rfl ?_ | refine blockA_ret ?_ | refine blockA_normal ?_ | refine thenA_ret ?_ | refine thenA_exit ?_ | refine thenA_normal ?_)
              refine ⟨rfl, b + 1, ?_, ⟨⟨by omega, by omega⟩, fun b' h1 h2 => by
                by_cases he : b' = b
                · rw [he, ← hse]; exact qk
                · exact hk b' h1 (by omega)⟩, by omega⟩
              refine weak_of [] ?_ ?_ rfl rfl <;> simp [lessT, lessM, lessB, AV.less]
          · have hbe : b = h + 1 := by (have : ¬ ((b : Int) ≤ (h : Int)) := by simpa using hb); omega
            have hok : ruleOk m p h r = true := by
              unfold ruleOk
              rw [hpp]
              simp only [Bool.not_true, Bool.false_or, List.all_eq_true, List.mem_range]
              intro b' hb'
              by_cases hc : (h : Int) - r.after ≤ (b' : Int)
              · rw [hk b' (by omega) (by omega)]; simp
              · rw [decide_eq_false hc]; rfl
            repeat (first | refine walkL_true rfl ?_ | refine walkL_false rfl ?_ | refine walkL_seq ?_ | refine walkL_skip ?_ | refine walkL_block ?_ | (refine walkL_region fun K hK => ?_; simp (maxSteps := 4000000) only [go_sem, hw]; refine hK _ ?_; clear hK K) | refine walkL_nil ?_ | refine walkL_ret ?_ | refine walkL_exit ?_ | refine blockA_here ?_ | refine blockA_other rfl ?_ | refine blockA_ret ?_ | refine blockA_normal ?_ | refine thenA_ret ?_ | refine thenA_exit ?_ | refine thenA_normal ?_)
            refine ⟨rfl, i + 1, ?_, ⟨hlt, all_take_s hx hall hok⟩, by omega⟩
            refine weak_of [] ?_ ?_ rfl rfl <;> simp [lessT, lessM, lessB, AV.less]
      · have hpp : (r.path == p) = false := by simpa using qp
        have hok : ruleOk m p h r = true := by unfold ruleOk; rw [hpp]; rfl
        repeat (first | refine walkL_true rfl ?_ | refine walkL_false rfl ?_ | refine walkL_seq ?_ | refine walkL_skip ?_ | refine walkL_block ?_ | (refine walkL_region fun K hK => ?_; simp (maxSteps := 4000000) only [go_sem, g1, qp, hw, ruleRows_len]; refine hK _ ?_; clear hK K) | refine walkL_nil ?_ | refine walkL_ret ?_ | refine walkL_exit ?_ | refine blockA_here ?_ | refine blockA_other rfl ?_ | refine blockA_ret ?_ | refine blockA_normal ?_ | refine thenA_ret ?_ | refine thenA_exit ?_ | refine thenA_normal ?_)
        refine ⟨rfl, i + 1, ?_, ⟨hlt, all_take_s hx hall hok⟩, by omega⟩
        refine weak_of [] ?_ ?_ rfl rfl <;> simp [lessT, lessM, lessB, AV.less]
    · have he : i = rules.length := by (have : ¬ i < rules.length := by simpa using hb); omega
      subst he
      rw [List.take_length] at hall
      rw [hall]
      repeat (first | refine walkL_seq ?_ | refine walkL_skip ?_ | refine walkL_block ?_ | (refine walkL_region fun K hK => ?_; simp (maxSteps := 4000000) only [go_sem]; refine hK _ ?_; clear hK K) | refine walkL_nil ?_ | refine walkL_ret ?_ | refine walkL_exit ?_ | refine blockA_here ?_ | refine blockA_other rfl ?_ | refine blockA_ret ?_ | refine blockA_normal ?_ | refine thenA_ret ?_ | refine thenA_exit ?_ | refine thenA_normal ?_)
      simp (maxSteps := 4000000) only [go_sem]
end Go.Ab
