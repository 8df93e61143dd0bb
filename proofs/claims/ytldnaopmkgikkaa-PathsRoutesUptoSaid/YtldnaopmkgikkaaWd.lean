/- A walk engine over abstract states, and the contracts of the functions that the statement reaches: part 4. -/
import Derived.Test.YtldnaopmkgikkaaWc
import Derived.ChangeArms
import Derived.Test.YtldnaopmkgikkaaRows
import Derived.JoinedCond
import Derived.Carry
import Derived.RowKit
set_option linter.unusedVariables false
set_option linter.unusedSimpArgs false
namespace Go.Ab
open Go.RowKit Go.Proofs
set_option maxHeartbeats 4000000
set_option maxRecDepth 20000
attribute [local irreducible] WalkL Walk

theorem ordered_iff {s : Span} {lo hi : Int} : orderedB s lo hi = true ↔ lo ≤ s.lo ∧ s.lo ≤ s.hi ∧ s.hi ≤ hi := by simp [orderedB]

structure Path.Good (n : Net) (x : Path) : Prop where
  frm : 0 ≤ x.frm ∧ x.frm < n.places
  to : 0 ≤ x.to ∧ x.to < n.places
  ne : x.frm ≠ x.to
  grade : 1 ≤ x.grade ∧ x.grade ≤ 6
  time : 1 ≤ x.time.lo ∧ x.time.lo ≤ x.time.hi ∧ x.time.hi ≤ 600
  snow : 0 ≤ x.snow.lo ∧ x.snow.lo ≤ x.snow.hi ∧ x.snow.hi ≤ 30
  len : x.opens.length ≤ 6
  opens : ∀ s ∈ x.opens, 0 ≤ s.lo ∧ s.lo ≤ s.hi ∧ s.hi ≤ 2880

/-- A net that is valid. -/
structure Net.Good (n : Net) : Prop where
  places : 1 ≤ n.places ∧ n.places ≤ 12
  paths : n.paths.length ≤ 24
  path : ∀ x ∈ n.paths, x.Good n

theorem wrong_iff {n : Net} {x : Path} : wrongB n x = false ↔ x.Good n := by
  unfold wrongB wrong1
  simp only [Bool.or_eq_false_iff, Bool.not_eq_false', within_iff, ordered_iff, beq_eq_false_iff_ne, decide_eq_false_iff_not, List.any_eq_false, Bool.not_eq_true']
  constructor
  · rintro ⟨⟨h1, h2, h3, h4, h5, h6, h7⟩, h8⟩
    exact ⟨by omega, by omega, h3, h4, h5, h6, by omega, fun s hs => ordered_iff.1 (by simpa using h8 s hs)⟩
  · rintro ⟨h1, h2, h3, h4, h5, h6, h7, h8⟩
    exact ⟨⟨by omega, by omega, h3, h4, h5, h6, by omega⟩, fun s hs => by simpa using ordered_iff.2 (h8 s hs)⟩

theorem good_iff {n : Net} : ¬ badNet n = true ↔ n.Good := by
  have e : ¬ badNet n = true ↔ badNet n = false := by simp
  rw [e]
  unfold badNet
  simp only [Bool.or_eq_false_iff, Bool.not_eq_false', within_iff, decide_eq_false_iff_not, List.any_eq_false]
  constructor
  · rintro ⟨h1, h2, h3⟩
    exact ⟨h1, by omega, fun x hx => wrong_iff.1 (by simpa using h3 x hx)⟩
  · rintro ⟨h1, h2, h3⟩
    exact ⟨h1, by omega, fun x hx => by simpa using wrong_iff.2 (h3 x hx)⟩

theorem Net.Good.ok {n : Net} (h : n.Good) : n.Ok :=
  ⟨by have := h.places; omega, by have := h.paths; omega, fun x hx => (h.path x hx).frm, fun x hx => (h.path x hx).to, fun x hx => by have := (h.path x hx).len; omega⟩

theorem Net.Good.hi {n : Net} (h : n.Good) : ∀ x ∈ n.paths, ∀ s ∈ x.opens, s.hi ≤ 2880 := fun x hx s hs => ((h.path x hx).opens s hs).2.2

structure Party.Good (p : Party) : Prop where
  grade : 1 ≤ p.grade ∧ p.grade ≤ 6
  pace : 50 ≤ p.pace.lo ∧ p.pace.lo ≤ p.pace.hi ∧ p.pace.hi ≤ 300
  load : 0 ≤ p.load ∧ p.load ≤ 40

theorem party_iff {p : Party} : ¬ badParty p = true ↔ p.Good := by
  have e : ¬ badParty p = true ↔ badParty p = false := by simp
  rw [e]
  unfold badParty
  simp only [Bool.or_eq_false_iff, Bool.not_eq_false', within_iff, ordered_iff]
  exact ⟨fun ⟨h1, h2, h3⟩ => ⟨h1, h2, h3⟩, fun ⟨h1, h2, h3⟩ => ⟨h1, h2, h3⟩⟩

structure Opened (n : Net) (p : Party) (places minutes : List Int) : Prop where
  net : n.Good
  party : p.Good
  place : ∀ x ∈ places, 0 ≤ x ∧ x < n.places
  minute : ∀ x ∈ minutes, 0 ≤ x ∧ x ≤ 2880

theorem ask_iff {n : Net} {places minutes : List Int} : ¬ badAsk n places minutes = true ↔ (∀ x ∈ places, 0 ≤ x ∧ x < n.places) ∧ ∀ x ∈ minutes, 0 ≤ x ∧ x ≤ 2880 := by
  have e : ¬ badAsk n places minutes = true ↔ badAsk n places minutes = false := by simp
  rw [e]
  unfold badAsk
  simp only [Bool.or_eq_false_iff, List.any_eq_false]
  constructor
  · rintro ⟨h1, h2⟩
    exact ⟨fun x hx => by have := within_iff.1 (by simpa using h1 x hx); omega, fun x hx => within_iff.1 (by simpa using h2 x hx)⟩
  · rintro ⟨h1, h2⟩
    exact ⟨fun x hx => by simpa using within_iff.2 (by have := h1 x hx; omega), fun x hx => by simpa using within_iff.2 (h2 x hx)⟩

theorem open_iff {n : Net} {p : Party} {places minutes : List Int} : openF n p places minutes = 0 ↔ Opened n p places minutes := by
  unfold openF
  constructor
  · intro h
    split at h
    · cases h
    · rename_i h1
      split at h
      · cases h
      · rename_i h2
        split at h
        · cases h
        · rename_i h3
          exact ⟨good_iff.1 h1, party_iff.1 h2, (ask_iff.1 h3).1, (ask_iff.1 h3).2⟩
  · rintro ⟨h1, h2, h3, h4⟩
    rw [if_neg (good_iff.2 h1), if_neg (party_iff.2 h2), if_neg (ask_iff.2 ⟨h3, h4⟩)]

theorem fixA_len (n : Net) (p : Party) (q : Span → Int) (but : Int) : ∀ (k : Nat) (l : List Int), (fixA n p q but k l).length = l.length
  | 0, _ => rfl
  | k + 1, l => by
    unfold fixA
    split
    · rw [fixA_len n p q but k, passA, foldA_len]
    · rw [passA, foldA_len]
theorem arrivals_len (n : Net) (p : Party) (q : Span → Int) (frm start but : Int) : (arrivalsL n p q frm start but).length = n.places.toNat := by
  rw [arrivalsL, fixA_len]; simp [arrivals0]
theorem fixD_len (n : Net) (p : Party) : ∀ (k : Nat) (l : List Int), (fixD n p k l).length = l.length
  | 0, _ => rfl
  | k + 1, l => by
    unfold fixD
    split
    · rw [fixD_len n p k, passD, foldD_len]
    · rw [passD, foldD_len]
theorem deadlines_len (n : Net) (p : Party) (to b : Int) : (deadlinesL n p to b).length = n.places.toNat := by
  rw [deadlinesL, fixD_len]; simp [deadlines0]

def spanHi (s : Span) : Int := s.hi
def spanLo (s : Span) : Int := s.lo

/-- The sure and the best arrivals, with the error. -/
def arriveL (n : Net) (p : Party) (frm start : Int) : List Int × List Int × Int :=
  if openF n p [frm] [start] = 0 then ((arrivalsL n p spanHi frm start (-1)).map told1, (arrivalsL n p spanLo frm start (-1)).map told1, 0) else ([], [], openF n p [frm] [start])

theorem f21 (n : Net) (p : Party) (frm start : Int) (hs : n.Small) : Fn Try.prog 21 [.agg n.cells, .agg p.cells, .i frm, .i start]
    (.tup [.sl (intRows (arriveL n p frm start).1), .sl (intRows (arriveL n p frm start).2.1), .i (arriveL n p frm start).2.2]) := by
  have h41 := f41 n p [frm] [start] hs (by simp) (by simp)
  refine fn_walk 36 Try.call21 Try.func21 rfl (by decide) fun J => ?_
  simp (maxSteps := 4000000) only [go_sem, St.start, Try.ntmps21, Try.results21, Net.cells, Party.cells]
  repeat (first | refine walkL_seq ?_ | refine walkL_skip ?_ | refine walkL_block ?_ | (refine walkL_region fun K hK => ?_; simp (maxSteps := 4000000) only [go_sem, walkCells]; (repeat (first | (refine ⟨_, .lent (hf := h41) (hd := rfl) (hr := rfl), ?_⟩; simp (maxSteps := 4000000) only [go_sem, walkCells]) | (refine ⟨_, .given (hf := h41) (hd := rfl) (ha := rfl), ?_⟩; simp (maxSteps := 4000000) only [go_sem, walkCells]))); refine hK _ ?_; clear hK K) | refine walkL_nil ?_ | refine walkL_ret ?_ | refine walkL_exit ?_ | refine blockA_here ?_ | refine blockA_other rfl ?_ | refine blockA_ret ?_ | refine blockA_normal ?_ | refine thenA_ret ?_ | refine thenA_exit ?_ | refine thenA_normal ?_)
  refine walkL_cond rfl (fun hc => ?_) (fun hc => ?_)
  · have hc : ¬ openF n p [frm] [start] = 0 := by simpa using hc
    repeat (first | refine walkL_seq ?_ | refine walkL_skip ?_ | refine walkL_block ?_ | (refine walkL_region fun K hK => ?_; simp (maxSteps := 4000000) only [go_sem]; refine hK _ ?_; clear hK K) | refine walkL_nil ?_ | refine walkL_ret ?_ | refine walkL_exit ?_ | refine blockA_here ?_ | refine blockA_other rfl ?_ | refine blockA_ret ?_ | refine blockA_normal ?_ | refine thenA_ret ?_ | refine thenA_exit ?_ | refine thenA_normal ?_)
    simp (maxSteps := 4000000) only [go_sem, arriveL, hc]
    rfl
  · have hc : openF n p [frm] [start] = 0 := by simpa using hc
    have ho := open_iff.1 hc
    have hfr := ho.place frm (by simp)
    have hpl := ho.net.places
    have h42 := f42 n p frm start (-1) 43 spanHi (fun s => f43 s) ho.net.ok hfr
    have h42' := f42 n p frm start (-1) 60 spanLo (fun s => f60 s) ho.net.ok hfr
    have h59 := f59 (arrivalsL n p spanHi frm start (-1)) (by rw [arrivals_len]; omega)
    have h59' := f59 (arrivalsL n p spanLo frm start (-1)) (by rw [arrivals_len]; omega)
    repeat (first | refine walkL_seq ?_ | refine walkL_skip ?_ | refine walkL_block ?_ | (refine walkL_region fun K hK => ?_; simp (maxSteps := 4000000) only [go_sem]; refine hK _ ?_; clear hK K) | refine walkL_nil ?_ | refine walkL_ret ?_ | refine walkL_exit ?_ | refine blockA_here ?_ | refine blockA_other rfl ?_ | refine blockA_ret ?_ | refine blockA_normal ?_ | refine thenA_ret ?_ | refine thenA_exit ?_ | refine thenA_normal ?_)
    refine walkL_drawn (by kernel_rfl) (by kernel_rfl) fun K hK => ?_
    simp (maxSteps := 4000000) only [go_sem]
    refine ⟨_, .fnS (hdst := rfl) (hf := h42) (hd := rfl) (hr := .inr rfl) (hfr := rfl), ?_⟩
    simp (maxSteps := 4000000) only [go_sem]
    refine ⟨_, .inPlace (n := 29) (hf := h59) (hn := rfl) (hb := rfl) (hla := rfl) (ha := argG_all (by repeat (first | exact trivial | refine And.intro ?_ ?_ | exact argG_ren rfl | exact argG_deep rfl rfl))) (hx := by first | decide | simp [AV.refsAll, AV.refs, AV.refs.AV.refss]), ?_⟩
    simp (maxSteps := 4000000) only [go_sem]
    refine ⟨_, .fnS (hdst := rfl) (hf := h42') (hd := rfl) (hr := .inr rfl) (hfr := rfl), ?_⟩
    simp (maxSteps := 4000000) only [go_sem]
    refine ⟨_, .inPlace (n := 34) (hf := h59') (hn := rfl) (hb := rfl) (hla := rfl) (ha := argG_all (by repeat (first | exact trivial | refine And.intro ?_ ?_ | exact argG_ren rfl | exact argG_deep rfl rfl))) (hx := by first | decide | simp [AV.refsAll, AV.refs, AV.refs.AV.refss]), ?_⟩
    simp (maxSteps := 4000000) only [go_sem]
    refine ⟨by kernel_rfl, hK _ ?_⟩
    clear hK K
    repeat (first | refine walkL_seq ?_ | refine walkL_skip ?_ | refine walkL_block ?_ | (refine walkL_region fun K hK => ?_; simp (maxSteps := 4000000) only [go_sem]; refine hK _ ?_; clear hK K) | refine walkL_nil ?_ | refine walkL_ret ?_ | refine walkL_exit ?_ | refine blockA_here ?_ | refine blockA_other rfl ?_ | refine blockA_ret ?_ | refine blockA_normal ?_ | refine thenA_ret ?_ | refine thenA_exit ?_ | refine thenA_normal ?_)
    simp (maxSteps := 4000000) only [go_sem, arriveL, hc]
end Go.Ab
namespace Go.Ab
open Go.RowKit Go.Proofs
set_option maxHeartbeats 4000000
set_option maxRecDepth 20000
attribute [local irreducible] WalkL Walk

def refArriveL (n : Net) (p : Party) (frm start : Int) : List Int × List Int × Int :=
  if openF n p [frm] [start] = 0 then ((tableL n p frm start true (-1)).map shown1, (tableL n p frm start false (-1)).map shown1, 0) else ([], [], openF n p [frm] [start])

theorem f30 (n : Net) (p : Party) (frm start : Int) (hs : n.Small) : Fn Try.prog 30 [.agg n.cells, .agg p.cells, .i frm, .i start]
    (.tup [.sl (intRows (refArriveL n p frm start).1), .sl (intRows (refArriveL n p frm start).2.1), .i (refArriveL n p frm start).2.2]) := by
  have h52 := f52 n p [frm] [start] hs (by simp) (by simp)
  refine fn_walk 34 Try.call30 Try.func30 rfl (by decide) fun J => ?_
  simp (maxSteps := 4000000) only [go_sem, St.start, Try.ntmps30, Try.results30, Net.cells, Party.cells]
  repeat (first | refine walkL_seq ?_ | refine walkL_skip ?_ | refine walkL_block ?_ | (refine walkL_region fun K hK => ?_; simp (maxSteps := 4000000) only [go_sem]; (repeat (first | (refine ⟨_, .lent (hf := h52) (hd := rfl) (hr := rfl), ?_⟩; simp (maxSteps := 4000000) only [go_sem]) | (refine ⟨_, .given (hf := h52) (hd := rfl) (ha := rfl), ?_⟩; simp (maxSteps := 4000000) only [go_sem]))); refine hK _ ?_; clear hK K) | refine walkL_nil ?_ | refine walkL_ret ?_ | refine walkL_exit ?_ | refine blockA_here ?_ | refine blockA_other rfl ?_ | refine blockA_ret ?_ | refine blockA_normal ?_ | refine thenA_ret ?_ | refine thenA_exit ?_ | refine thenA_normal ?_)
  refine walkL_cond rfl (fun hc => ?_) (fun hc => ?_)
  · have hc : ¬ openF n p [frm] [start] = 0 := by simpa using hc
    repeat (first | refine walkL_seq ?_ | refine walkL_skip ?_ | refine walkL_block ?_ | (refine walkL_region fun K hK => ?_; simp (maxSteps := 4000000) only [go_sem]; refine hK _ ?_; clear hK K) | refine walkL_nil ?_ | refine walkL_ret ?_ | refine walkL_exit ?_ | refine blockA_here ?_ | refine blockA_other rfl ?_ | refine blockA_ret ?_ | refine blockA_normal ?_ | refine thenA_ret ?_ | refine thenA_exit ?_ | refine thenA_normal ?_)
    simp (maxSteps := 4000000) only [go_sem, refArriveL, hc]
    rfl
  · have hc : openF n p [frm] [start] = 0 := by simpa using hc
    have ho := open_iff.1 hc
    have hfr := ho.place frm (by simp)
    have hpl := ho.net.places
    have h76 := f76 n p frm start true (-1) ho.net.ok hfr
    have h76' := f76 n p frm start false (-1) ho.net.ok hfr
    have h75 := f75 (tableL n p frm start true (-1)) (by rw [table_len]; omega)
    have h75' := f75 (tableL n p frm start false (-1)) (by rw [table_len]; omega)
    repeat (first | refine walkL_seq ?_ | refine walkL_skip ?_ | refine walkL_block ?_ | (refine walkL_region fun K hK => ?_; simp (maxSteps := 4000000) only [go_sem]; refine hK _ ?_; clear hK K) | refine walkL_nil ?_ | refine walkL_ret ?_ | refine walkL_exit ?_ | refine blockA_here ?_ | refine blockA_other rfl ?_ | refine blockA_ret ?_ | refine blockA_normal ?_ | refine thenA_ret ?_ | refine thenA_exit ?_ | refine thenA_normal ?_)
    refine walkL_drawn (by kernel_rfl) (by kernel_rfl) fun K hK => ?_
    simp (maxSteps := 4000000) only [go_sem]
    refine ⟨_, .fn (hf := h76) (hd := rfl) (hr := .inr rfl), ?_⟩
    simp (maxSteps := 4000000) only [go_sem]
    refine ⟨_, .fn (hf := h75) (hd := rfl) (hr := .inr rfl), ?_⟩
    simp (maxSteps := 4000000) only [go_sem]
    refine ⟨_, .fn (hf := h76') (hd := rfl) (hr := .inr rfl), ?_⟩
    simp (maxSteps := 4000000) only [go_sem]
    refine ⟨_, .fn (hf := h75') (hd := rfl) (hr := .inr rfl), ?_⟩
    simp (maxSteps := 4000000) only [go_sem]
    refine ⟨by kernel_rfl, hK _ ?_⟩
    clear hK K
    repeat (first | refine walkL_seq ?_ | refine walkL_skip ?_ | refine walkL_block ?_ | (refine walkL_region fun K hK => ?_; simp (maxSteps := 4000000) only [go_sem]; refine hK _ ?_; clear hK K) | refine walkL_nil ?_ | refine walkL_ret ?_ | refine walkL_exit ?_ | refine blockA_here ?_ | refine blockA_other rfl ?_ | refine blockA_ret ?_ | refine blockA_normal ?_ | refine thenA_ret ?_ | refine thenA_exit ?_ | refine thenA_normal ?_)
    simp (maxSteps := 4000000) only [go_sem, refArriveL, hc]

def latestL (n : Net) (p : Party) (frm to deadline : Int) : Int × Int :=
  if openF n p [frm, to] [deadline] = 0 then (if getI (deadlinesL n p to deadline) frm = -1 then (0, 3) else (getI (deadlinesL n p to deadline) frm, 0)) else (0, openF n p [frm, to] [deadline])

theorem f18 (n : Net) (p : Party) (frm to deadline : Int) (hs : n.Small) : Fn Try.prog 18 [.agg n.cells, .agg p.cells, .i frm, .i to, .i deadline]
    (.tup [.i (latestL n p frm to deadline).1, .i (latestL n p frm to deadline).2]) := by
  have h41 := f41 n p [frm, to] [deadline] hs (by simp) (by simp)
  refine fn_walk 40 Try.call18 Try.func18 rfl (by decide) fun J => ?_
  simp (maxSteps := 4000000) only [go_sem, St.start, Try.ntmps18, Try.results18, Net.cells, Party.cells]
  repeat (first | refine walkL_seq ?_ | refine walkL_skip ?_ | refine walkL_block ?_ | (refine walkL_region fun K hK => ?_; simp (maxSteps := 4000000) only [go_sem, walkCells]; (repeat (first | (refine ⟨_, .lent (hf := h41) (hd := rfl) (hr := rfl), ?_⟩; simp (maxSteps := 4000000) only [go_sem, walkCells]) | (refine ⟨_, .given (hf := h41) (hd := rfl) (ha := rfl), ?_⟩; simp (maxSteps := 4000000) only [go_sem, walkCells]))); refine hK _ ?_; clear hK K) | refine walkL_nil ?_ | refine walkL_ret ?_ | refine walkL_exit ?_ | refine blockA_here ?_ | refine blockA_other rfl ?_ | refine blockA_ret ?_ | refine blockA_normal ?_ | refine thenA_ret ?_ | refine thenA_exit ?_ | refine thenA_normal ?_)
  refine walkL_cond rfl (fun hc => ?_) (fun hc => ?_)
  · have hc : ¬ openF n p [frm, to] [deadline] = 0 := by simpa using hc
    repeat (first | refine walkL_seq ?_ | refine walkL_skip ?_ | refine walkL_block ?_ | (refine walkL_region fun K hK => ?_; simp (maxSteps := 4000000) only [go_sem]; refine hK _ ?_; clear hK K) | refine walkL_nil ?_ | refine walkL_ret ?_ | refine walkL_exit ?_ | refine blockA_here ?_ | refine blockA_other rfl ?_ | refine blockA_ret ?_ | refine blockA_normal ?_ | refine thenA_ret ?_ | refine thenA_exit ?_ | refine thenA_normal ?_)
    simp (maxSteps := 4000000) only [go_sem, latestL, hc]
  · have hop : openF n p [frm, to] [deadline] = 0 := by simpa using hc
    have ho := open_iff.1 hop
    have hfr := ho.place frm (by simp)
    have hto := ho.place to (by simp)
    have hpl := ho.net.places
    have h54 := f54 n p to deadline ho.net.ok ho.net.hi hto
    have hlen := deadlines_len n p to deadline
    have hg : (intRows (deadlinesL n p to deadline))[frm.toNat]? = some [.i (getI (deadlinesL n p to deadline) frm)] := intRows_get hfr.1 (by omega)
    have hlt : frm.toNat < (intRows (deadlinesL n p to deadline)).length := by rw [intRows_len]; omega
    repeat (first | refine walkL_seq ?_ | refine walkL_skip ?_ | refine walkL_block ?_ | (refine walkL_region fun K hK => ?_; simp (maxSteps := 4000000) only [go_sem]; refine hK _ ?_; clear hK K) | refine walkL_nil ?_ | refine walkL_ret ?_ | refine walkL_exit ?_ | refine blockA_here ?_ | refine blockA_other rfl ?_ | refine blockA_ret ?_ | refine blockA_normal ?_ | refine thenA_ret ?_ | refine thenA_exit ?_ | refine thenA_normal ?_)
    refine walkL_region fun K hK => ?_
    simp (maxSteps := 4000000) only [go_sem]
    refine ⟨_, .lentS (hdst := rfl) (hf := h54) (hd := rfl) (hr := rowsFlat_int _) (hfr := rfl), ?_⟩
    simp (maxSteps := 4000000) only [go_sem, hg, hlt, hfr.1]
    refine hK _ ?_
    clear hK K
    repeat (first | refine walkL_seq ?_ | refine walkL_skip ?_ | refine walkL_block ?_ | (refine walkL_region fun K hK => ?_; simp (maxSteps := 4000000) only [go_sem]; refine hK _ ?_; clear hK K) | refine walkL_nil ?_ | refine walkL_ret ?_ | refine walkL_exit ?_ | refine blockA_here ?_ | refine blockA_other rfl ?_ | refine blockA_ret ?_ | refine blockA_normal ?_ | refine thenA_ret ?_ | refine thenA_exit ?_ | refine thenA_normal ?_)
    refine walkL_cond rfl (fun hc => ?_) (fun hc => ?_)
    · have hc2 : getI (deadlinesL n p to deadline) frm = -1 := by simpa using hc
      repeat (first | refine walkL_seq ?_ | refine walkL_skip ?_ | refine walkL_block ?_ | (refine walkL_region fun K hK => ?_; simp (maxSteps := 4000000) only [go_sem]; refine hK _ ?_; clear hK K) | refine walkL_nil ?_ | refine walkL_ret ?_ | refine walkL_exit ?_ | refine blockA_here ?_ | refine blockA_other rfl ?_ | refine blockA_ret ?_ | refine blockA_normal ?_ | refine thenA_ret ?_ | refine thenA_exit ?_ | refine thenA_normal ?_)
      simp (maxSteps := 4000000) only [go_sem, latestL, hop, hc2]
    · have hc2 : ¬ getI (deadlinesL n p to deadline) frm = -1 := by simpa using hc
      repeat (first | refine walkL_seq ?_ | refine walkL_skip ?_ | refine walkL_block ?_ | (refine walkL_region fun K hK => ?_; simp (maxSteps := 4000000) only [go_sem]; refine hK _ ?_; clear hK K) | refine walkL_nil ?_ | refine walkL_ret ?_ | refine walkL_exit ?_ | refine blockA_here ?_ | refine blockA_other rfl ?_ | refine blockA_ret ?_ | refine blockA_normal ?_ | refine thenA_ret ?_ | refine thenA_exit ?_ | refine thenA_normal ?_)
      simp (maxSteps := 4000000) only [go_sem, latestL, hop, hc2]
/-- The greatest number below k of which q is so. -/
def findDown (q : Int → Bool) : Nat → Option Nat
  | 0 => none
  | k + 1 => if q k then some k else findDown q k

def refLatestL (n : Net) (p : Party) (frm to deadline : Int) : Int × Int :=
  if openF n p [frm, to] [deadline] = 0 then (match findDown (fun t => decide (sureF n p frm t to (-1) ≤ deadline)) (deadline + 1).toNat with
    | some t => ((t : Int), 0)
    | none => (0, 3)) else (0, openF n p [frm, to] [deadline])

theorem f19 (n : Net) (p : Party) (frm to deadline : Int) (hs : n.Small) : Fn Try.prog 19 [.agg n.cells, .agg p.cells, .i frm, .i to, .i deadline]
    (.tup [.i (refLatestL n p frm to deadline).1, .i (refLatestL n p frm to deadline).2]) := by
  have h52 := f52 n p [frm, to] [deadline] hs (by simp) (by simp)
  refine fn_walk 39 Try.call19 Try.func19 rfl (by decide) fun J => ?_
  simp (maxSteps := 4000000) only [go_sem, St.start, Try.ntmps19, Try.results19, Net.cells, Party.cells]
  repeat (first | refine walkL_seq ?_ | refine walkL_skip ?_ | refine walkL_block ?_ | (refine walkL_region fun K hK => ?_; simp (maxSteps := 4000000) only [go_sem]; (repeat (first | (refine ⟨_, .lent (hf := h52) (hd := rfl) (hr := rfl), ?_⟩; simp (maxSteps := 4000000) only [go_sem]) | (refine ⟨_, .given (hf := h52) (hd := rfl) (ha := rfl), ?_⟩; simp (maxSteps := 4000000) only [go_sem]))); refine hK _ ?_; clear hK K) | refine walkL_nil ?_ | refine walkL_ret ?_ | refine walkL_exit ?_ | refine blockA_here ?_ | refine blockA_other rfl ?_ | refine blockA_ret ?_ | refine blockA_normal ?_ | refine thenA_ret ?_ | refine thenA_exit ?_ | refine thenA_normal ?_)
  refine walkL_cond rfl (fun hc => ?_) (fun hc => ?_)
  · have hc : ¬ openF n p [frm, to] [deadline] = 0 := by simpa using hc
    repeat (first | refine walkL_seq ?_ | refine walkL_skip ?_ | refine walkL_block ?_ | (refine walkL_region fun K hK => ?_; simp (maxSteps := 4000000) only [go_sem]; refine hK _ ?_; clear hK K) | refine walkL_nil ?_ | refine walkL_ret ?_ | refine walkL_exit ?_ | refine blockA_here ?_ | refine blockA_other rfl ?_ | refine blockA_ret ?_ | refine blockA_normal ?_ | refine thenA_ret ?_ | refine thenA_exit ?_ | refine thenA_normal ?_)
    simp (maxSteps := 4000000) only [go_sem, refLatestL, hc]
  · have hop : openF n p [frm, to] [deadline] = 0 := by simpa using hc
    have ho := open_iff.1 hop
    have hfr := ho.place frm (by simp)
    have hto := ho.place to (by simp)
    have hdl := ho.minute deadline (by simp)
    obtain ⟨q, hq⟩ : ∃ q : Int → Bool, q = fun t => decide (sureF n p frm t to (-1) ≤ deadline) := ⟨_, rfl⟩
    have href : refLatestL n p frm to deadline = match findDown q (deadline + 1).toNat with
      | some t => ((t : Int), 0)
      | none => (0, 3) := by rw [refLatestL, if_pos hop, hq]
    repeat (first | refine walkL_seq ?_ | refine walkL_skip ?_ | refine walkL_block ?_ | (refine walkL_region fun K hK => ?_; simp (maxSteps := 4000000) only [go_sem]; refine hK _ ?_; clear hK K) | refine walkL_nil ?_ | refine walkL_ret ?_ | refine walkL_exit ?_ | refine blockA_here ?_ | refine blockA_other rfl ?_ | refine blockA_ret ?_ | refine blockA_normal ?_ | refine thenA_ret ?_ | refine thenA_exit ?_ | refine thenA_normal ?_)
    refine walkL_loopS (fun (t : Int) => [(13, .d (.i t))]) (fun _ => []) (fun t => -1 ≤ t ∧ t ≤ 2880 ∧ findDown q (deadline + 1).toNat = findDown q (t + 1).toNat) (fun t => (t + 1).toNat) deadline ?_ ⟨by omega, by omega, rfl⟩ ?_
    · simp (maxSteps := 4000000) only [go_sem]
      refine weak_of [] ?_ ?_ rfl rfl <;> simp [lessT, lessM, lessB, AV.less]
    · intro t ⟨ht1, ht2, hfd⟩
      simp (maxSteps := 4000000) only [go_sem]
      repeat (first | refine walkL_seq ?_ | refine walkL_skip ?_ | refine walkL_block ?_ | (refine walkL_region fun K hK => ?_; simp (maxSteps := 4000000) only [go_sem]; refine hK _ ?_; clear hK K) | refine walkL_nil ?_ | refine walkL_ret ?_ | refine walkL_exit ?_ | refine blockA_here ?_ | refine blockA_other rfl ?_ | refine blockA_ret ?_ | refine blockA_normal ?_ | refine thenA_ret ?_ | refine thenA_exit ?_ | refine thenA_normal ?_)
      refine walkL_cond rfl (fun hb => ?_) (fun hb => ?_)
      · have hb : t ≥ 0 := by simpa using hb
        have hw : IntKind.i64.wrap (t - 1) = t - 1 := wr_small (by omega)
        have h55 := f55 n p frm t to (-1) ho.net.ok hfr hto
        rw [show (t + 1).toNat = t.toNat + 1 by omega, findDown, show ((t.toNat : Nat) : Int) = t by omega] at hfd
        repeat (first | refine walkL_seq ?_ | refine walkL_skip ?_ | refine walkL_block ?_ | (refine walkL_region fun K hK => ?_; simp (maxSteps := 4000000) only [go_sem]; (repeat (first | (refine ⟨_, .lent (hf := h55) (hd := rfl) (hr := rfl), ?_⟩; simp (maxSteps := 4000000) only [go_sem]) | (refine ⟨_, .given (hf := h55) (hd := rfl) (ha := rfl), ?_⟩; simp (maxSteps := 4000000) only [go_sem]))); refine hK _ ?_; clear hK K) | refine walkL_nil ?_ | refine walkL_ret ?_ | refine walkL_exit ?_ | refine blockA_here ?_ | refine blockA_other rfl ?_ | refine blockA_ret ?_ | refine blockA_normal ?_ | refine thenA_ret ?_ | refine thenA_exit ?_ | refine thenA_normal ?_)
        refine walkL_cond rfl (fun hc => ?_) (fun hc => ?_)
        · have hqt : q t = true := by rw [hq]; exact hc
          rw [hqt, if_pos rfl] at hfd
          repeat (first | refine walkL_seq ?_ | refine walkL_skip ?_ | refine walkL_block ?_ | (refine walkL_region fun K hK => ?_; simp (maxSteps := 4000000) only [go_sem]; refine hK _ ?_; clear hK K) | refine walkL_nil ?_ | refine walkL_ret ?_ | refine walkL_exit ?_ | refine blockA_here ?_ | refine blockA_other rfl ?_ | refine blockA_ret ?_ | refine blockA_normal ?_ | refine thenA_ret ?_ | refine thenA_exit ?_ | refine thenA_normal ?_)
          simp (maxSteps := 4000000) only [go_sem, href, hfd]
          rw [show ((t.toNat : Nat) : Int) = t by omega]
        · have hqt : q t = false := by rw [hq]; exact hc
          rw [hqt, if_neg (by simp)] at hfd
          repeat (first | refine walkL_seq ?_ | refine walkL_skip ?_ | refine walkL_block ?_ | (refine walkL_region fun K hK => ?_; simp (maxSteps := 4000000) only [go_sem, hw]; refine hK _ ?_; clear hK K) | refine walkL_nil ?_ | refine walkL_ret ?_ | refine walkL_exit ?_ | refine blockA_here ?_ | refine blockA_other rfl ?_ | refine blockA_ret ?_ | refine blockA_normal ?_ | refine thenA_ret ?_ | refine thenA_exit ?_ | refine thenA_normal ?_)
          refine ⟨rfl, t - 1, ?_, ⟨by omega, by omega, by rw [hfd, show (t - 1 + 1).toNat = t.toNat by omega]⟩, by omega⟩
          refine weak_of [] ?_ ?_ rfl rfl <;> simp [lessT, lessM, lessB, AV.less]
      · have he : t = -1 := by (have : ¬ t ≥ 0 := by simpa using hb); omega
        subst he
        repeat (first | refine walkL_seq ?_ | refine walkL_skip ?_ | refine walkL_block ?_ | (refine walkL_region fun K hK => ?_; simp (maxSteps := 4000000) only [go_sem]; refine hK _ ?_; clear hK K) | refine walkL_nil ?_ | refine walkL_ret ?_ | refine walkL_exit ?_ | refine blockA_here ?_ | refine blockA_other rfl ?_ | refine blockA_ret ?_ | refine blockA_normal ?_ | refine thenA_ret ?_ | refine thenA_exit ?_ | refine thenA_normal ?_)
        have hfd : findDown q (deadline + 1).toNat = none := hfd
        simp (maxSteps := 4000000) only [go_sem, href, hfd]

theorem f77 (n : Net) (p : Party) (but frm start to deadline : Int) (hn : n.Ok) (hfr : 0 ≤ frm ∧ frm < n.places) (hto : 0 ≤ to ∧ to < n.places) :
    Fn Try.prog 77 [.i but, .ptr (walkCells n p) 0, .ptr [.i frm] 0, .ptr [.i start] 0, .ptr [.i to] 0, .ptr [.i deadline] 0] (.bool (decide (getI (arrivalsL n p spanHi frm start but) to > deadline))) := by
  have h42 := f42 n p frm start but 43 spanHi (fun s => f43 s) hn hfr
  have hlen := arrivals_len n p spanHi frm start but
  have hg : (intRows (arrivalsL n p spanHi frm start but))[to.toNat]? = some [.i (getI (arrivalsL n p spanHi frm start but) to)] := intRows_get hto.1 (by omega)
  have hlt : to.toNat < (intRows (arrivalsL n p spanHi frm start but)).length := by rw [intRows_len]; omega
  refine fn_walk 18 Try.call77 Try.func77 rfl (by decide) fun J => ?_
  simp (maxSteps := 4000000) only [go_sem, St.start, Try.ntmps77, Try.results77, walkCells]
  repeat (first | refine walkL_seq ?_ | refine walkL_skip ?_ | refine walkL_block ?_ | (refine walkL_region fun K hK => ?_; simp (maxSteps := 4000000) only [go_sem]; refine hK _ ?_; clear hK K) | refine walkL_nil ?_ | refine walkL_ret ?_ | refine walkL_exit ?_ | refine blockA_here ?_ | refine blockA_other rfl ?_ | refine blockA_ret ?_ | refine blockA_normal ?_ | refine thenA_ret ?_ | refine thenA_exit ?_ | refine thenA_normal ?_)
  refine walkL_drawn (by kernel_rfl) (by kernel_rfl) fun K hK => ?_
  simp (maxSteps := 4000000) only [go_sem]
  refine ⟨_, .fnS (hdst := rfl) (hf := h42) (hd := rfl) (hr := .inr rfl) (hfr := rfl), ?_⟩
  simp (maxSteps := 4000000) only [go_sem, hg, hlt, hto.1]
  refine ⟨by kernel_rfl, hK _ ?_⟩
  clear hK K
  repeat (first | refine walkL_seq ?_ | refine walkL_skip ?_ | refine walkL_block ?_ | (refine walkL_region fun K hK => ?_; simp (maxSteps := 4000000) only [go_sem]; refine hK _ ?_; clear hK K) | refine walkL_nil ?_ | refine walkL_ret ?_ | refine walkL_exit ?_ | refine blockA_here ?_ | refine blockA_other rfl ?_ | refine blockA_ret ?_ | refine blockA_normal ?_ | refine thenA_ret ?_ | refine thenA_exit ?_ | refine thenA_normal ?_)
  simp (maxSteps := 4000000) only [go_sem]

end Go.Ab
namespace Go.Ab
open Go.RowKit Go.Proofs
set_option maxHeartbeats 4000000
set_option maxRecDepth 20000
attribute [local irreducible] WalkL Walk

def walkF (n : Net) (p : Party) (i : Int) : Span × Int :=
  if checkPartyF n p = 0 then (if withinB i 0 (n.paths.length - 1) then (match n.paths[i.toNat]? with
    | some x => if x.grade ≤ p.grade then (spanW x p, 0) else (⟨0, 0⟩, 3)
    | none => (⟨0, 0⟩, 1)) else (⟨0, 0⟩, 1)) else (⟨0, 0⟩, checkPartyF n p)

theorem f28 (n : Net) (p : Party) (i : Int) (hs : n.Small) : Fn Try.prog 28 [.agg n.cells, .agg p.cells, .i i] (.tup [.agg (walkF n p i).1.row, .i (walkF n p i).2]) := by
  have h73 := f73 n p hs
  refine fn_walk 39 Try.call28 Try.func28 rfl (by decide) fun J => ?_
  simp (maxSteps := 4000000) only [go_sem, St.start, Try.ntmps28, Try.results28, Net.cells, Party.cells]
  repeat (first | refine walkL_seq ?_ | refine walkL_skip ?_ | refine walkL_block ?_ | (refine walkL_region fun K hK => ?_; simp (maxSteps := 4000000) only [go_sem, walkCells]; (repeat (first | (refine ⟨_, .lent (hf := h73) (hd := rfl) (hr := rfl), ?_⟩; simp (maxSteps := 4000000) only [go_sem, walkCells]) | (refine ⟨_, .given (hf := h73) (hd := rfl) (ha := rfl), ?_⟩; simp (maxSteps := 4000000) only [go_sem, walkCells]))); refine hK _ ?_; clear hK K) | refine walkL_nil ?_ | refine walkL_ret ?_ | refine walkL_exit ?_ | refine blockA_here ?_ | refine blockA_other rfl ?_ | refine blockA_ret ?_ | refine blockA_normal ?_ | refine thenA_ret ?_ | refine thenA_exit ?_ | refine thenA_normal ?_)
  refine walkL_cond rfl (fun hc => ?_) (fun hc => ?_)
  · have hc : ¬ checkPartyF n p = 0 := by simpa using hc
    repeat (first | refine walkL_seq ?_ | refine walkL_skip ?_ | refine walkL_block ?_ | (refine walkL_region fun K hK => ?_; simp (maxSteps := 4000000) only [go_sem]; refine hK _ ?_; clear hK K) | refine walkL_nil ?_ | refine walkL_ret ?_ | refine walkL_exit ?_ | refine blockA_here ?_ | refine blockA_other rfl ?_ | refine blockA_ret ?_ | refine blockA_normal ?_ | refine thenA_ret ?_ | refine thenA_exit ?_ | refine thenA_normal ?_)
    simp (maxSteps := 4000000) only [go_sem, walkF, hc]
    rfl
  · have hop : checkPartyF n p = 0 := by simpa using hc
    have hb := hs.paths
    have hw : IntKind.i64.wrap ((n.paths.length : Int) - 1) = n.paths.length - 1 := wr_small (by omega)
    repeat (first | refine walkL_seq ?_ | refine walkL_skip ?_ | refine walkL_block ?_ | (refine walkL_region fun K hK => ?_; simp (maxSteps := 4000000) only [go_sem, hw]; (repeat (first | (refine ⟨_, .lent (hf := f65 i 0 (n.paths.length - 1)) (hd := rfl) (hr := rfl), ?_⟩; simp (maxSteps := 4000000) only [go_sem, hw]) | (refine ⟨_, .given (hf := f65 i 0 (n.paths.length - 1)) (hd := rfl) (ha := rfl), ?_⟩; simp (maxSteps := 4000000) only [go_sem, hw]))); refine hK _ ?_; clear hK K) | refine walkL_nil ?_ | refine walkL_ret ?_ | refine walkL_exit ?_ | refine blockA_here ?_ | refine blockA_other rfl ?_ | refine blockA_ret ?_ | refine blockA_normal ?_ | refine thenA_ret ?_ | refine thenA_exit ?_ | refine thenA_normal ?_)
    refine walkL_cond rfl (fun hc => ?_) (fun hc => ?_)
    · have hc : withinB i 0 (n.paths.length - 1) = false := by simpa using hc
      repeat (first | refine walkL_seq ?_ | refine walkL_skip ?_ | refine walkL_block ?_ | (refine walkL_region fun K hK => ?_; simp (maxSteps := 4000000) only [go_sem]; refine hK _ ?_; clear hK K) | refine walkL_nil ?_ | refine walkL_ret ?_ | refine walkL_exit ?_ | refine blockA_here ?_ | refine blockA_other rfl ?_ | refine blockA_ret ?_ | refine blockA_normal ?_ | refine thenA_ret ?_ | refine thenA_exit ?_ | refine thenA_normal ?_)
      simp (maxSteps := 4000000) only [go_sem, walkF, hop, hc]
      rfl
    · have hwi : withinB i 0 (n.paths.length - 1) = true := by simpa using hc
      have hii := within_iff.1 hwi
      obtain ⟨j, rfl⟩ : ∃ j : Nat, i = j := ⟨i.toNat, by omega⟩
      obtain ⟨x, hx⟩ : ∃ x, n.paths[j]? = some x := ⟨_, List.getElem?_eq_getElem (show j < n.paths.length by omega)⟩
      have h74 := f74 n p j x hx
      have h51 := f51 n p j x hx
      repeat (first | refine walkL_seq ?_ | refine walkL_skip ?_ | refine walkL_block ?_ | (refine walkL_region fun K hK => ?_; simp (maxSteps := 4000000) only [go_sem]; (repeat (first | (refine ⟨_, .lent (hf := h74) (hd := rfl) (hr := rfl), ?_⟩; simp (maxSteps := 4000000) only [go_sem]) | (refine ⟨_, .given (hf := h74) (hd := rfl) (ha := rfl), ?_⟩; simp (maxSteps := 4000000) only [go_sem]))); refine hK _ ?_; clear hK K) | refine walkL_nil ?_ | refine walkL_ret ?_ | refine walkL_exit ?_ | refine blockA_here ?_ | refine blockA_other rfl ?_ | refine blockA_ret ?_ | refine blockA_normal ?_ | refine thenA_ret ?_ | refine thenA_exit ?_ | refine thenA_normal ?_)
      refine walkL_cond rfl (fun hc => ?_) (fun hc => ?_)
      · have hg : ¬ x.grade ≤ p.grade := by simpa using hc
        repeat (first | refine walkL_seq ?_ | refine walkL_skip ?_ | refine walkL_block ?_ | (refine walkL_region fun K hK => ?_; simp (maxSteps := 4000000) only [go_sem]; refine hK _ ?_; clear hK K) | refine walkL_nil ?_ | refine walkL_ret ?_ | refine walkL_exit ?_ | refine blockA_here ?_ | refine blockA_other rfl ?_ | refine blockA_ret ?_ | refine blockA_normal ?_ | refine thenA_ret ?_ | refine thenA_exit ?_ | refine thenA_normal ?_)
        simp (maxSteps := 4000000) only [go_sem, walkF, hop, hwi, Int.toNat_natCast, hx, hg]
        rfl
      · have hg : x.grade ≤ p.grade := by simpa using hc
        repeat (first | refine walkL_seq ?_ | refine walkL_skip ?_ | refine walkL_block ?_ | (refine walkL_region fun K hK => ?_; simp (maxSteps := 4000000) only [go_sem, Span.row]; (repeat (first | (refine ⟨_, .lent (hf := h51) (hd := rfl) (hr := rfl), ?_⟩; simp (maxSteps := 4000000) only [go_sem, Span.row]) | (refine ⟨_, .given (hf := h51) (hd := rfl) (ha := rfl), ?_⟩; simp (maxSteps := 4000000) only [go_sem, Span.row]))); refine hK _ ?_; clear hK K) | refine walkL_nil ?_ | refine walkL_ret ?_ | refine walkL_exit ?_ | refine blockA_here ?_ | refine blockA_other rfl ?_ | refine blockA_ret ?_ | refine blockA_normal ?_ | refine thenA_ret ?_ | refine thenA_exit ?_ | refine thenA_normal ?_)
        simp (maxSteps := 4000000) only [go_sem, walkF, hop, hwi, Int.toNat_natCast, hx, hg, Span.row]

theorem f29 (n : Net) (p : Party) (i : Int) (hs : n.Small) : Fn Try.prog 29 [.agg n.cells, .agg p.cells, .i i] (.tup [.agg (walkF n p i).1.row, .i (walkF n p i).2]) := by
  have h56 := f56 n p hs
  have hb := hs.paths
  have h33 := f33 n i (by omega)
  refine fn_walk 31 Try.call29 Try.func29 rfl (by decide) fun J => ?_
  simp (maxSteps := 4000000) only [go_sem, St.start, Try.ntmps29, Try.results29, Net.cells, Party.cells]
  repeat (first | refine walkL_seq ?_ | refine walkL_skip ?_ | refine walkL_block ?_ | (refine walkL_region fun K hK => ?_; simp (maxSteps := 4000000) only [go_sem]; (repeat (first | (refine ⟨_, .lent (hf := h56) (hd := rfl) (hr := rfl), ?_⟩; simp (maxSteps := 4000000) only [go_sem]) | (refine ⟨_, .given (hf := h56) (hd := rfl) (ha := rfl), ?_⟩; simp (maxSteps := 4000000) only [go_sem]))); refine hK _ ?_; clear hK K) | refine walkL_nil ?_ | refine walkL_ret ?_ | refine walkL_exit ?_ | refine blockA_here ?_ | refine blockA_other rfl ?_ | refine blockA_ret ?_ | refine blockA_normal ?_ | refine thenA_ret ?_ | refine thenA_exit ?_ | refine thenA_normal ?_)
  refine walkL_cond rfl (fun hc => ?_) (fun hc => ?_)
  · have hc : ¬ checkPartyF n p = 0 := by simpa using hc
    repeat (first | refine walkL_seq ?_ | refine walkL_skip ?_ | refine walkL_block ?_ | (refine walkL_region fun K hK => ?_; simp (maxSteps := 4000000) only [go_sem]; refine hK _ ?_; clear hK K) | refine walkL_nil ?_ | refine walkL_ret ?_ | refine walkL_exit ?_ | refine blockA_here ?_ | refine blockA_other rfl ?_ | refine blockA_ret ?_ | refine blockA_normal ?_ | refine thenA_ret ?_ | refine thenA_exit ?_ | refine thenA_normal ?_)
    simp (maxSteps := 4000000) only [go_sem, walkF, hc]
    rfl
  · have hop : checkPartyF n p = 0 := by simpa using hc
    repeat (first | refine walkL_seq ?_ | refine walkL_skip ?_ | refine walkL_block ?_ | (refine walkL_region fun K hK => ?_; simp (maxSteps := 4000000) only [go_sem]; (repeat (first | (refine ⟨_, .lent (hf := h33) (hd := rfl) (hr := rfl), ?_⟩; simp (maxSteps := 4000000) only [go_sem]) | (refine ⟨_, .given (hf := h33) (hd := rfl) (ha := rfl), ?_⟩; simp (maxSteps := 4000000) only [go_sem]))); refine hK _ ?_; clear hK K) | refine walkL_nil ?_ | refine walkL_ret ?_ | refine walkL_exit ?_ | refine blockA_here ?_ | refine blockA_other rfl ?_ | refine blockA_ret ?_ | refine blockA_normal ?_ | refine thenA_ret ?_ | refine thenA_exit ?_ | refine thenA_normal ?_)
    refine walkL_cond rfl (fun hc => ?_) (fun hc => ?_)
    · have hc : withinB i 0 (n.paths.length - 1) = false := by simpa using hc
      repeat (first | refine walkL_seq ?_ | refine walkL_skip ?_ | refine walkL_block ?_ | (refine walkL_region fun K hK => ?_; simp (maxSteps := 4000000) only [go_sem]; refine hK _ ?_; clear hK K) | refine walkL_nil ?_ | refine walkL_ret ?_ | refine walkL_exit ?_ | refine blockA_here ?_ | refine blockA_other rfl ?_ | refine blockA_ret ?_ | refine blockA_normal ?_ | refine thenA_ret ?_ | refine thenA_exit ?_ | refine thenA_normal ?_)
      simp (maxSteps := 4000000) only [go_sem, walkF, hop, hc]
      rfl
    · have hwi : withinB i 0 (n.paths.length - 1) = true := by simpa using hc
      have hii := within_iff.1 hwi
      obtain ⟨j, rfl⟩ : ∃ j : Nat, i = j := ⟨i.toNat, by omega⟩
      obtain ⟨x, hx⟩ : ∃ x, n.paths[j]? = some x := ⟨_, List.getElem?_eq_getElem (show j < n.paths.length by omega)⟩
      have h61 := f61 n p j x hx
      have h24 := f24 n p j x hx
      repeat (first | refine walkL_seq ?_ | refine walkL_skip ?_ | refine walkL_block ?_ | (refine walkL_region fun K hK => ?_; simp (maxSteps := 4000000) only [go_sem]; (repeat (first | (refine ⟨_, .lent (hf := h61) (hd := rfl) (hr := rfl), ?_⟩; simp (maxSteps := 4000000) only [go_sem]) | (refine ⟨_, .given (hf := h61) (hd := rfl) (ha := rfl), ?_⟩; simp (maxSteps := 4000000) only [go_sem]))); refine hK _ ?_; clear hK K) | refine walkL_nil ?_ | refine walkL_ret ?_ | refine walkL_exit ?_ | refine blockA_here ?_ | refine blockA_other rfl ?_ | refine blockA_ret ?_ | refine blockA_normal ?_ | refine thenA_ret ?_ | refine thenA_exit ?_ | refine thenA_normal ?_)
      refine walkL_cond rfl (fun hc => ?_) (fun hc => ?_)
      · have hg : ¬ x.grade ≤ p.grade := by simpa using hc
        repeat (first | refine walkL_seq ?_ | refine walkL_skip ?_ | refine walkL_block ?_ | (refine walkL_region fun K hK => ?_; simp (maxSteps := 4000000) only [go_sem]; refine hK _ ?_; clear hK K) | refine walkL_nil ?_ | refine walkL_ret ?_ | refine walkL_exit ?_ | refine blockA_here ?_ | refine blockA_other rfl ?_ | refine blockA_ret ?_ | refine blockA_normal ?_ | refine thenA_ret ?_ | refine thenA_exit ?_ | refine thenA_normal ?_)
        simp (maxSteps := 4000000) only [go_sem, walkF, hop, hwi, Int.toNat_natCast, hx, hg]
        rfl
      · have hg : x.grade ≤ p.grade := by simpa using hc
        repeat (first | refine walkL_seq ?_ | refine walkL_skip ?_ | refine walkL_block ?_ | (refine walkL_region fun K hK => ?_; simp (maxSteps := 4000000) only [go_sem, Span.row]; (repeat (first | (refine ⟨_, .lent (hf := h24) (hd := rfl) (hr := rfl), ?_⟩; simp (maxSteps := 4000000) only [go_sem, Span.row]) | (refine ⟨_, .given (hf := h24) (hd := rfl) (ha := rfl), ?_⟩; simp (maxSteps := 4000000) only [go_sem, Span.row]))); refine hK _ ?_; clear hK K) | refine walkL_nil ?_ | refine walkL_ret ?_ | refine walkL_exit ?_ | refine blockA_here ?_ | refine blockA_other rfl ?_ | refine blockA_ret ?_ | refine blockA_normal ?_ | refine thenA_ret ?_ | refine thenA_exit ?_ | refine thenA_normal ?_)
        simp (maxSteps := 4000000) only [go_sem, walkF, hop, hwi, Int.toNat_natCast, hx, hg, Span.row]

/-- The numbers below k of which q is so. -/
def selL (q : Nat → Bool) (k : Nat) : List Int := ((List.range k).filter q).map fun (i : Nat) => (i : Int)

theorem selL_succ (q : Nat → Bool) (k : Nat) : selL q (k + 1) = selL q k ++ if q k then [(k : Int)] else [] := by
  simp only [selL, List.range_succ, List.filter_append, List.map_append]
  congr 1
  by_cases h : q k <;> simp [h]

theorem selL_len (q : Nat → Bool) (k : Nat) : (selL q k).length ≤ k := by
  unfold selL
  rw [List.length_map]
  exact Nat.le_trans (List.length_filter_le _ _) (by simp)

def vitalL (n : Net) (p : Party) (frm start to deadline : Int) : List Int × Int :=
  if openF n p [frm, to] [start, deadline] = 0 then (if getI (arrivalsL n p spanHi frm start (-1)) to > deadline then ([], 3) else (selL (fun (i : Nat) => decide (getI (arrivalsL n p spanHi frm start (i : Int)) to > deadline)) n.paths.length, 0))
  else ([], openF n p [frm, to] [start, deadline])

theorem f31 (n : Net) (p : Party) (frm start to deadline : Int) (hs : n.Small) : Fn Try.prog 31 [.agg n.cells, .agg p.cells, .i frm, .i start, .i to, .i deadline]
    (.tup [.sl (intRows (vitalL n p frm start to deadline).1), .i (vitalL n p frm start to deadline).2]) := by
  have h41 := f41 n p [frm, to] [start, deadline] hs (by simp) (by simp)
  refine fn_walk 54 Try.call31 Try.func31 rfl (by decide) fun J => ?_
  simp (maxSteps := 4000000) only [go_sem, St.start, Try.ntmps31, Try.results31, Net.cells, Party.cells]
  repeat (first | refine walkL_seq ?_ | refine walkL_skip ?_ | refine walkL_block ?_ | (refine walkL_region fun K hK => ?_; simp (maxSteps := 4000000) only [go_sem, walkCells]; (repeat (first | (refine ⟨_, .lent (hf := h41) (hd := rfl) (hr := rfl), ?_⟩; simp (maxSteps := 4000000) only [go_sem, walkCells]) | (refine ⟨_, .given (hf := h41) (hd := rfl) (ha := rfl), ?_⟩; simp (maxSteps := 4000000) only [go_sem, walkCells]))); refine hK _ ?_; clear hK K) | refine walkL_nil ?_ | refine walkL_ret ?_ | refine walkL_exit ?_ | refine blockA_here ?_ | refine blockA_other rfl ?_ | refine blockA_ret ?_ | refine blockA_normal ?_ | refine thenA_ret ?_ | refine thenA_exit ?_ | refine thenA_normal ?_)
  refine walkL_cond rfl (fun hc => ?_) (fun hc => ?_)
  · have hc : ¬ openF n p [frm, to] [start, deadline] = 0 := by simpa using hc
    repeat (first | refine walkL_seq ?_ | refine walkL_skip ?_ | refine walkL_block ?_ | (refine walkL_region fun K hK => ?_; simp (maxSteps := 4000000) only [go_sem]; refine hK _ ?_; clear hK K) | refine walkL_nil ?_ | refine walkL_ret ?_ | refine walkL_exit ?_ | refine blockA_here ?_ | refine blockA_other rfl ?_ | refine blockA_ret ?_ | refine blockA_normal ?_ | refine thenA_ret ?_ | refine thenA_exit ?_ | refine thenA_normal ?_)
    simp (maxSteps := 4000000) only [go_sem, vitalL, hc]
    rfl
  · have hop : openF n p [frm, to] [start, deadline] = 0 := by simpa using hc
    have ho := open_iff.1 hop
    have hfr := ho.place frm (by simp)
    have hto := ho.place to (by simp)
    have hpn := ho.net.paths
    have h77 := fun but => f77 n p but frm start to deadline ho.net.ok hfr hto
    repeat (first | refine walkL_seq ?_ | refine walkL_skip ?_ | refine walkL_block ?_ | (refine walkL_region fun K hK => ?_; simp (maxSteps := 4000000) only [go_sem]; (repeat (first | (refine ⟨_, .lent (hf := h77 (-1)) (hd := rfl) (hr := rfl), ?_⟩; simp (maxSteps := 4000000) only [go_sem]) | (refine ⟨_, .given (hf := h77 (-1)) (hd := rfl) (ha := rfl), ?_⟩; simp (maxSteps := 4000000) only [go_sem]))); refine hK _ ?_; clear hK K) | refine walkL_nil ?_ | refine walkL_ret ?_ | refine walkL_exit ?_ | refine blockA_here ?_ | refine blockA_other rfl ?_ | refine blockA_ret ?_ | refine blockA_normal ?_ | refine thenA_ret ?_ | refine thenA_exit ?_ | refine thenA_normal ?_)
    refine walkL_cond rfl (fun hc => ?_) (fun hc => ?_)
    · have hc : getI (arrivalsL n p spanHi frm start (-1)) to > deadline := by simpa using hc
      repeat (first | refine walkL_seq ?_ | refine walkL_skip ?_ | refine walkL_block ?_ | (refine walkL_region fun K hK => ?_; simp (maxSteps := 4000000) only [go_sem]; refine hK _ ?_; clear hK K) | refine walkL_nil ?_ | refine walkL_ret ?_ | refine walkL_exit ?_ | refine blockA_here ?_ | refine blockA_other rfl ?_ | refine blockA_ret ?_ | refine blockA_normal ?_ | refine thenA_ret ?_ | refine thenA_exit ?_ | refine thenA_normal ?_)
      simp (maxSteps := 4000000) only [go_sem, vitalL, hop, hc]
      rfl
    · have hl0 : ¬ getI (arrivalsL n p spanHi frm start (-1)) to > deadline := by simpa using hc
      obtain ⟨q, hq⟩ : ∃ q : Nat → Bool, q = fun (i : Nat) => decide (getI (arrivalsL n p spanHi frm start (i : Int)) to > deadline) := ⟨_, rfl⟩
      repeat (first | refine walkL_seq ?_ | refine walkL_skip ?_ | refine walkL_block ?_ | (refine walkL_region fun K hK => ?_; simp (maxSteps := 4000000) only [go_sem]; refine hK _ ?_; clear hK K) | refine walkL_nil ?_ | refine walkL_ret ?_ | refine walkL_exit ?_ | refine blockA_here ?_ | refine blockA_other rfl ?_ | refine blockA_ret ?_ | refine blockA_normal ?_ | refine thenA_ret ?_ | refine thenA_exit ?_ | refine thenA_normal ?_)
      refine walkL_loopS (fun (i : Nat) => [(42, .d (.i i)), (17, .own 17)]) (fun i => [(17, some (.arr 3 1 (intRows (selL q i))))]) (fun i => i ≤ n.paths.length) (fun i => n.paths.length - i) 0 ?_ (Nat.zero_le _) ?_
      · simp (maxSteps := 4000000) only [go_sem]
        refine weak_of [17] ?_ ?_ rfl rfl <;> simp [lessT, lessM, lessB, AV.less, selL, intRows]
      · intro i hi
        simp (maxSteps := 4000000) only [go_sem]
        repeat (first | refine walkL_seq ?_ | refine walkL_skip ?_ | refine walkL_block ?_ | (refine walkL_region fun K hK => ?_; simp (maxSteps := 4000000) only [go_sem]; refine hK _ ?_; clear hK K) | refine walkL_nil ?_ | refine walkL_ret ?_ | refine walkL_exit ?_ | refine blockA_here ?_ | refine blockA_other rfl ?_ | refine blockA_ret ?_ | refine blockA_normal ?_ | refine thenA_ret ?_ | refine thenA_exit ?_ | refine thenA_normal ?_)
        refine walkL_cond rfl (fun hb => ?_) (fun hb => ?_)
        · have hlt : i < n.paths.length := by simpa using hb
          have hw : IntKind.i64.wrap ((i : Int) + 1) = ((i + 1 : Nat) : Int) := by rw [wr_small (by omega)]; simp
          have hn := selL_succ q i
          have hlen : (selL q i).length + 1 ≤ 549755813888 := by have := selL_len q i; omega
          repeat (first | refine walkL_seq ?_ | refine walkL_skip ?_ | refine walkL_block ?_ | (refine walkL_region fun K hK => ?_; simp (maxSteps := 4000000) only [go_sem]; (repeat (first | (refine ⟨_, .lent (hf := h77 i) (hd := rfl) (hr := rfl), ?_⟩; simp (maxSteps := 4000000) only [go_sem]) | (refine ⟨_, .given (hf := h77 i) (hd := rfl) (ha := rfl), ?_⟩; simp (maxSteps := 4000000) only [go_sem]))); refine hK _ ?_; clear hK K) | refine walkL_nil ?_ | refine walkL_ret ?_ | refine walkL_exit ?_ | refine blockA_here ?_ | refine blockA_other rfl ?_ | refine blockA_ret ?_ | refine blockA_normal ?_ | refine thenA_ret ?_ | refine thenA_exit ?_ | refine thenA_normal ?_)
          refine walkL_cond rfl (fun hc => ?_) (fun hc => ?_)
          · have hqi : q i = true := by rw [hq]; exact hc
            rw [hqi, if_pos rfl] at hn
            repeat (first | refine walkL_seq ?_ | refine walkL_skip ?_ | refine walkL_block ?_ | (refine walkL_region fun K hK => ?_; simp (maxSteps := 4000000) only [go_sem, hlen, intRows_len, hw]; refine hK _ ?_; clear hK K) | refine walkL_nil ?_ | refine walkL_ret ?_ | refine walkL_exit ?_ | refine blockA_here ?_ | refine blockA_other rfl ?_ | refine blockA_ret ?_ | refine blockA_normal ?_ | refine thenA_ret ?_ | refine thenA_exit ?_ | refine thenA_normal ?_)
            refine ⟨rfl, i + 1, ?_, hlt, by omega⟩
            rw [hn, ← intRows_append]
            refine weak_of [] ?_ ?_ rfl rfl <;> simp [lessT, lessM, lessB, AV.less]
            rfl
          · have hqi : q i = false := by rw [hq]; exact hc
            rw [hqi, if_neg (by simp), List.append_nil] at hn
            repeat (first | refine walkL_seq ?_ | refine walkL_skip ?_ | refine walkL_block ?_ | (refine walkL_region fun K hK => ?_; simp (maxSteps := 4000000) only [go_sem, hw]; refine hK _ ?_; clear hK K) | refine walkL_nil ?_ | refine walkL_ret ?_ | refine walkL_exit ?_ | refine blockA_here ?_ | refine blockA_other rfl ?_ | refine blockA_ret ?_ | refine blockA_normal ?_ | refine thenA_ret ?_ | refine thenA_exit ?_ | refine thenA_normal ?_)
            refine ⟨rfl, i + 1, ?_, hlt, by omega⟩
            rw [hn]
            refine weak_of [] ?_ ?_ rfl rfl <;> simp [lessT, lessM, lessB, AV.less]
        · have he : i = n.paths.length := by (have : ¬ i < n.paths.length := by simpa using hb); omega
          subst he
          repeat (first | refine walkL_seq ?_ | refine walkL_skip ?_ | refine walkL_block ?_ | (refine walkL_region fun K hK => ?_; simp (maxSteps := 4000000) only [go_sem]; refine hK _ ?_; clear hK K) | refine walkL_nil ?_ | refine walkL_ret ?_ | refine walkL_exit ?_ | refine blockA_here ?_ | refine blockA_other rfl ?_ | refine blockA_ret ?_ | refine blockA_normal ?_ | refine thenA_ret ?_ | refine thenA_exit ?_ | refine thenA_normal ?_)
          simp (maxSteps := 4000000) only [go_sem, vitalL, hop, hl0, hq]

def refVitalL (n : Net) (p : Party) (frm start to deadline : Int) : List Int × Int :=
  if openF n p [frm, to] [start, deadline] = 0 then (if sureF n p frm start to (-1) > deadline then ([], 3) else (selL (fun (i : Nat) => decide (sureF n p frm start to (i : Int) > deadline)) n.paths.length, 0))
  else ([], openF n p [frm, to] [start, deadline])

theorem f36 (n : Net) (p : Party) (frm start to deadline : Int) (hs : n.Small) : Fn Try.prog 36 [.agg n.cells, .agg p.cells, .i frm, .i start, .i to, .i deadline]
    (.tup [.sl (intRows (refVitalL n p frm start to deadline).1), .i (refVitalL n p frm start to deadline).2]) := by
  have h52 := f52 n p [frm, to] [start, deadline] hs (by simp) (by simp)
  refine fn_walk 58 Try.call36 Try.func36 rfl (by decide) fun J => ?_
  simp (maxSteps := 4000000) only [go_sem, St.start, Try.ntmps36, Try.results36, Net.cells, Party.cells]
  repeat (first | refine walkL_seq ?_ | refine walkL_skip ?_ | refine walkL_block ?_ | (refine walkL_region fun K hK => ?_; simp (maxSteps := 4000000) only [go_sem]; (repeat (first | (refine ⟨_, .lent (hf := h52) (hd := rfl) (hr := rfl), ?_⟩; simp (maxSteps := 4000000) only [go_sem]) | (refine ⟨_, .given (hf := h52) (hd := rfl) (ha := rfl), ?_⟩; simp (maxSteps := 4000000) only [go_sem]))); refine hK _ ?_; clear hK K) | refine walkL_nil ?_ | refine walkL_ret ?_ | refine walkL_exit ?_ | refine blockA_here ?_ | refine blockA_other rfl ?_ | refine blockA_ret ?_ | refine blockA_normal ?_ | refine thenA_ret ?_ | refine thenA_exit ?_ | refine thenA_normal ?_)
  refine walkL_cond rfl (fun hc => ?_) (fun hc => ?_)
  · have hc : ¬ openF n p [frm, to] [start, deadline] = 0 := by simpa using hc
    repeat (first | refine walkL_seq ?_ | refine walkL_skip ?_ | refine walkL_block ?_ | (refine walkL_region fun K hK => ?_; simp (maxSteps := 4000000) only [go_sem]; refine hK _ ?_; clear hK K) | refine walkL_nil ?_ | refine walkL_ret ?_ | refine walkL_exit ?_ | refine blockA_here ?_ | refine blockA_other rfl ?_ | refine blockA_ret ?_ | refine blockA_normal ?_ | refine thenA_ret ?_ | refine thenA_exit ?_ | refine thenA_normal ?_)
    simp (maxSteps := 4000000) only [go_sem, refVitalL, hc]
    rfl
  · have hop : openF n p [frm, to] [start, deadline] = 0 := by simpa using hc
    have ho := open_iff.1 hop
    have hfr := ho.place frm (by simp)
    have hto := ho.place to (by simp)
    have hpn := ho.net.paths
    have h55 := fun but => f55 n p frm start to but ho.net.ok hfr hto
    repeat (first | refine walkL_seq ?_ | refine walkL_skip ?_ | refine walkL_block ?_ | (refine walkL_region fun K hK => ?_; simp (maxSteps := 4000000) only [go_sem]; (repeat (first | (refine ⟨_, .lent (hf := h55 (-1)) (hd := rfl) (hr := rfl), ?_⟩; simp (maxSteps := 4000000) only [go_sem]) | (refine ⟨_, .given (hf := h55 (-1)) (hd := rfl) (ha := rfl), ?_⟩; simp (maxSteps := 4000000) only [go_sem]))); refine hK _ ?_; clear hK K) | refine walkL_nil ?_ | refine walkL_ret ?_ | refine walkL_exit ?_ | refine blockA_here ?_ | refine blockA_other rfl ?_ | refine blockA_ret ?_ | refine blockA_normal ?_ | refine thenA_ret ?_ | refine thenA_exit ?_ | refine thenA_normal ?_)
    refine walkL_cond rfl (fun hc => ?_) (fun hc => ?_)
    · have hc : sureF n p frm start to (-1) > deadline := by simpa using hc
      repeat (first | refine walkL_seq ?_ | refine walkL_skip ?_ | refine walkL_block ?_ | (refine walkL_region fun K hK => ?_; simp (maxSteps := 4000000) only [go_sem]; refine hK _ ?_; clear hK K) | refine walkL_nil ?_ | refine walkL_ret ?_ | refine walkL_exit ?_ | refine blockA_here ?_ | refine blockA_other rfl ?_ | refine blockA_ret ?_ | refine blockA_normal ?_ | refine thenA_ret ?_ | refine thenA_exit ?_ | refine thenA_normal ?_)
      simp (maxSteps := 4000000) only [go_sem, refVitalL, hop, hc]
      rfl
    · have hl0 : ¬ sureF n p frm start to (-1) > deadline := by simpa using hc
      obtain ⟨q, hq⟩ : ∃ q : Nat → Bool, q = fun (i : Nat) => decide (sureF n p frm start to (i : Int) > deadline) := ⟨_, rfl⟩
      repeat (first | refine walkL_seq ?_ | refine walkL_skip ?_ | refine walkL_block ?_ | (refine walkL_region fun K hK => ?_; simp (maxSteps := 4000000) only [go_sem]; refine hK _ ?_; clear hK K) | refine walkL_nil ?_ | refine walkL_ret ?_ | refine walkL_exit ?_ | refine blockA_here ?_ | refine blockA_other rfl ?_ | refine blockA_ret ?_ | refine blockA_normal ?_ | refine thenA_ret ?_ | refine thenA_exit ?_ | refine thenA_normal ?_)
      refine walkL_loopS (fun (i : Nat) => [(16, .d (.i i)), (15, .own 15)]) (fun i => [(15, some (.arr 3 1 (intRows (selL q i))))]) (fun i => i ≤ n.paths.length) (fun i => n.paths.length - i) 0 ?_ (Nat.zero_le _) ?_
      · simp (maxSteps := 4000000) only [go_sem]
        refine weak_of [15] ?_ ?_ rfl rfl <;> simp [lessT, lessM, lessB, AV.less, selL, intRows]
      · intro i hi
        simp (maxSteps := 4000000) only [go_sem]
        repeat (first | refine walkL_seq ?_ | refine walkL_skip ?_ | refine walkL_block ?_ | (refine walkL_region fun K hK => ?_; simp (maxSteps := 4000000) only [go_sem]; refine hK _ ?_; clear hK K) | refine walkL_nil ?_ | refine walkL_ret ?_ | refine walkL_exit ?_ | refine blockA_here ?_ | refine blockA_other rfl ?_ | refine blockA_ret ?_ | refine blockA_normal ?_ | refine thenA_ret ?_ | refine thenA_exit ?_ | refine thenA_normal ?_)
        refine walkL_cond rfl (fun hb => ?_) (fun hb => ?_)
        · have hlt : i < n.paths.length := by simpa using hb
          have hw : IntKind.i64.wrap ((i : Int) + 1) = ((i + 1 : Nat) : Int) := by rw [wr_small (by omega)]; simp
          have hn := selL_succ q i
          have hlen : (selL q i).length + 1 ≤ 549755813888 := by have := selL_len q i; omega
          repeat (first | refine walkL_seq ?_ | refine walkL_skip ?_ | refine walkL_block ?_ | (refine walkL_region fun K hK => ?_; simp (maxSteps := 4000000) only [go_sem]; (repeat (first | (refine ⟨_, .lent (hf := h55 i) (hd := rfl) (hr := rfl), ?_⟩; simp (maxSteps := 4000000) only [go_sem]) | (refine ⟨_, .given (hf := h55 i) (hd := rfl) (ha := rfl), ?_⟩; simp (maxSteps := 4000000) only [go_sem]))); refine hK _ ?_; clear hK K) | refine walkL_nil ?_ | refine walkL_ret ?_ | refine walkL_exit ?_ | refine blockA_here ?_ | refine blockA_other rfl ?_ | refine blockA_ret ?_ | refine blockA_normal ?_ | refine thenA_ret ?_ | refine thenA_exit ?_ | refine thenA_normal ?_)
          refine walkL_cond rfl (fun hc => ?_) (fun hc => ?_)
          · have hqi : q i = true := by rw [hq]; exact hc
            rw [hqi, if_pos rfl] at hn
            repeat (first | refine walkL_seq ?_ | refine walkL_skip ?_ | refine walkL_block ?_ | (refine walkL_region fun K hK => ?_; simp (maxSteps := 4000000) only [go_sem, hlen, intRows_len, hw]; refine hK _ ?_; clear hK K) | refine walkL_nil ?_ | refine walkL_ret ?_ | refine walkL_exit ?_ | refine blockA_here ?_ | refine blockA_other rfl ?_ | refine blockA_ret ?_ | refine blockA_normal ?_ | refine thenA_ret ?_ | refine thenA_exit ?_ | refine thenA_normal ?_)
            refine ⟨rfl, i + 1, ?_, hlt, by omega⟩
            rw [hn, ← intRows_append]
            refine weak_of [] ?_ ?_ rfl rfl <;> simp [lessT, lessM, lessB, AV.less]
            rfl
          · have hqi : q i = false := by rw [hq]; exact hc
            rw [hqi, if_neg (by simp), List.append_nil] at hn
            repeat (first | refine walkL_seq ?_ | refine walkL_skip ?_ | refine walkL_block ?_ | (refine walkL_region fun K hK => ?_; simp (maxSteps := 4000000) only [go_sem, hw]; refine hK _ ?_; clear hK K) | refine walkL_nil ?_ | refine walkL_ret ?_ | refine walkL_exit ?_ | refine blockA_here ?_ | refine blockA_other rfl ?_ | refine blockA_ret ?_ | refine blockA_normal ?_ | refine thenA_ret ?_ | refine thenA_exit ?_ | refine thenA_normal ?_)
            refine ⟨rfl, i + 1, ?_, hlt, by omega⟩
            rw [hn]
            refine weak_of [] ?_ ?_ rfl rfl <;> simp [lessT, lessM, lessB, AV.less]
        · have he : i = n.paths.length := by (have : ¬ i < n.paths.length := by simpa using hb); omega
          subst he
          repeat (first | refine walkL_seq ?_ | refine walkL_skip ?_ | refine walkL_block ?_ | (refine walkL_region fun K hK => ?_; simp (maxSteps := 4000000) only [go_sem]; refine hK _ ?_; clear hK K) | refine walkL_nil ?_ | refine walkL_ret ?_ | refine walkL_exit ?_ | refine blockA_here ?_ | refine blockA_other rfl ?_ | refine blockA_ret ?_ | refine blockA_normal ?_ | refine thenA_ret ?_ | refine thenA_exit ?_ | refine thenA_normal ?_)
          simp (maxSteps := 4000000) only [go_sem, refVitalL, hop, hl0, hq]

def withinL (n : Net) (p : Party) (frm start deadline : Int) : List Int × List Int × Int :=
  if openF n p [frm] [start, deadline] = 0 then (untilL deadline (arrivalsL n p spanHi frm start (-1)), untilL deadline (arrivalsL n p spanLo frm start (-1)), 0) else ([], [], openF n p [frm] [start, deadline])

theorem f37 (n : Net) (p : Party) (frm start deadline : Int) (hs : n.Small) : Fn Try.prog 37 [.agg n.cells, .agg p.cells, .i frm, .i start, .i deadline]
    (.tup [.sl (intRows (withinL n p frm start deadline).1), .sl (intRows (withinL n p frm start deadline).2.1), .i (withinL n p frm start deadline).2.2]) := by
  have h41 := f41 n p [frm] [start, deadline] hs (by simp) (by simp)
  refine fn_walk 43 Try.call37 Try.func37 rfl (by decide) fun J => ?_
  simp (maxSteps := 4000000) only [go_sem, St.start, Try.ntmps37, Try.results37, Net.cells, Party.cells]
  repeat (first | refine walkL_seq ?_ | refine walkL_skip ?_ | refine walkL_block ?_ | (refine walkL_region fun K hK => ?_; simp (maxSteps := 4000000) only [go_sem, walkCells]; (repeat (first | (refine ⟨_, .lent (hf := h41) (hd := rfl) (hr := rfl), ?_⟩; simp (maxSteps := 4000000) only [go_sem, walkCells]) | (refine ⟨_, .given (hf := h41) (hd := rfl) (ha := rfl), ?_⟩; simp (maxSteps := 4000000) only [go_sem, walkCells]))); refine hK _ ?_; clear hK K) | refine walkL_nil ?_ | refine walkL_ret ?_ | refine walkL_exit ?_ | refine blockA_here ?_ | refine blockA_other rfl ?_ | refine blockA_ret ?_ | refine blockA_normal ?_ | refine thenA_ret ?_ | refine thenA_exit ?_ | refine thenA_normal ?_)
  refine walkL_cond rfl (fun hc => ?_) (fun hc => ?_)
  · have hc : ¬ openF n p [frm] [start, deadline] = 0 := by simpa using hc
    repeat (first | refine walkL_seq ?_ | refine walkL_skip ?_ | refine walkL_block ?_ | (refine walkL_region fun K hK => ?_; simp (maxSteps := 4000000) only [go_sem]; refine hK _ ?_; clear hK K) | refine walkL_nil ?_ | refine walkL_ret ?_ | refine walkL_exit ?_ | refine blockA_here ?_ | refine blockA_other rfl ?_ | refine blockA_ret ?_ | refine blockA_normal ?_ | refine thenA_ret ?_ | refine thenA_exit ?_ | refine thenA_normal ?_)
    simp (maxSteps := 4000000) only [go_sem, withinL, hc]
    rfl
  · have hop : openF n p [frm] [start, deadline] = 0 := by simpa using hc
    have ho := open_iff.1 hop
    have hfr := ho.place frm (by simp)
    have hpl := ho.net.places
    have h42 := f42 n p frm start (-1) 43 spanHi (fun s => f43 s) ho.net.ok hfr
    have h42' := f42 n p frm start (-1) 60 spanLo (fun s => f60 s) ho.net.ok hfr
    have h79 := f79 (arrivalsL n p spanHi frm start (-1)) deadline (by rw [arrivals_len]; omega)
    have h79' := f79 (arrivalsL n p spanLo frm start (-1)) deadline (by rw [arrivals_len]; omega)
    repeat (first | refine walkL_seq ?_ | refine walkL_skip ?_ | refine walkL_block ?_ | (refine walkL_region fun K hK => ?_; simp (maxSteps := 4000000) only [go_sem]; refine hK _ ?_; clear hK K) | refine walkL_nil ?_ | refine walkL_ret ?_ | refine walkL_exit ?_ | refine blockA_here ?_ | refine blockA_other rfl ?_ | refine blockA_ret ?_ | refine blockA_normal ?_ | refine thenA_ret ?_ | refine thenA_exit ?_ | refine thenA_normal ?_)
    refine walkL_drawn (by kernel_rfl) (by kernel_rfl) fun K hK => ?_
    simp (maxSteps := 4000000) only [go_sem]
    refine ⟨_, .fnS (hdst := rfl) (hf := h42) (hd := rfl) (hr := .inr rfl) (hfr := rfl), ?_⟩
    simp (maxSteps := 4000000) only [go_sem]
    refine ⟨_, .fnS (hdst := rfl) (hf := h79) (hd := rfl) (hr := .inl (rowsFlat_int _)) (hfr := rfl), ?_⟩
    simp (maxSteps := 4000000) only [go_sem]
    refine ⟨_, .fnS (hdst := rfl) (hf := h42') (hd := rfl) (hr := .inr rfl) (hfr := rfl), ?_⟩
    simp (maxSteps := 4000000) only [go_sem]
    refine ⟨_, .fnS (hdst := rfl) (hf := h79') (hd := rfl) (hr := .inl (rowsFlat_int _)) (hfr := rfl), ?_⟩
    simp (maxSteps := 4000000) only [go_sem]
    refine ⟨by kernel_rfl, hK _ ?_⟩
    clear hK K
    repeat (first | refine walkL_seq ?_ | refine walkL_skip ?_ | refine walkL_block ?_ | (refine walkL_region fun K hK => ?_; simp (maxSteps := 4000000) only [go_sem]; refine hK _ ?_; clear hK K) | refine walkL_nil ?_ | refine walkL_ret ?_ | refine walkL_exit ?_ | refine blockA_here ?_ | refine blockA_other rfl ?_ | refine blockA_ret ?_ | refine blockA_normal ?_ | refine thenA_ret ?_ | refine thenA_exit ?_ | refine thenA_normal ?_)
    simp (maxSteps := 4000000) only [go_sem, withinL, hop]

def refWithinL (n : Net) (p : Party) (frm start deadline : Int) : List Int × List Int × Int :=
  if openF n p [frm] [start, deadline] = 0 then (untilL deadline (tableL n p frm start true (-1)), untilL deadline (tableL n p frm start false (-1)), 0) else ([], [], openF n p [frm] [start, deadline])

theorem f38 (n : Net) (p : Party) (frm start deadline : Int) (hs : n.Small) : Fn Try.prog 38 [.agg n.cells, .agg p.cells, .i frm, .i start, .i deadline]
    (.tup [.sl (intRows (refWithinL n p frm start deadline).1), .sl (intRows (refWithinL n p frm start deadline).2.1), .i (refWithinL n p frm start deadline).2.2]) := by
  have h52 := f52 n p [frm] [start, deadline] hs (by simp) (by simp)
  refine fn_walk 39 Try.call38 Try.func38 rfl (by decide) fun J => ?_
  simp (maxSteps := 4000000) only [go_sem, St.start, Try.ntmps38, Try.results38, Net.cells, Party.cells]
  repeat (first | refine walkL_seq ?_ | refine walkL_skip ?_ | refine walkL_block ?_ | (refine walkL_region fun K hK => ?_; simp (maxSteps := 4000000) only [go_sem]; (repeat (first | (refine ⟨_, .lent (hf := h52) (hd := rfl) (hr := rfl), ?_⟩; simp (maxSteps := 4000000) only [go_sem]) | (refine ⟨_, .given (hf := h52) (hd := rfl) (ha := rfl), ?_⟩; simp (maxSteps := 4000000) only [go_sem]))); refine hK _ ?_; clear hK K) | refine walkL_nil ?_ | refine walkL_ret ?_ | refine walkL_exit ?_ | refine blockA_here ?_ | refine blockA_other rfl ?_ | refine blockA_ret ?_ | refine blockA_normal ?_ | refine thenA_ret ?_ | refine thenA_exit ?_ | refine thenA_normal ?_)
  refine walkL_cond rfl (fun hc => ?_) (fun hc => ?_)
  · have hc : ¬ openF n p [frm] [start, deadline] = 0 := by simpa using hc
    repeat (first | refine walkL_seq ?_ | refine walkL_skip ?_ | refine walkL_block ?_ | (refine walkL_region fun K hK => ?_; simp (maxSteps := 4000000) only [go_sem]; refine hK _ ?_; clear hK K) | refine walkL_nil ?_ | refine walkL_ret ?_ | refine walkL_exit ?_ | refine blockA_here ?_ | refine blockA_other rfl ?_ | refine blockA_ret ?_ | refine blockA_normal ?_ | refine thenA_ret ?_ | refine thenA_exit ?_ | refine thenA_normal ?_)
    simp (maxSteps := 4000000) only [go_sem, refWithinL, hc]
    rfl
  · have hop : openF n p [frm] [start, deadline] = 0 := by simpa using hc
    have ho := open_iff.1 hop
    have hfr := ho.place frm (by simp)
    have hpl := ho.net.places
    have h76 := f76 n p frm start true (-1) ho.net.ok hfr
    have h76' := f76 n p frm start false (-1) ho.net.ok hfr
    have h80 := f80 (tableL n p frm start true (-1)) deadline (by rw [table_len]; omega)
    have h80' := f80 (tableL n p frm start false (-1)) deadline (by rw [table_len]; omega)
    repeat (first | refine walkL_seq ?_ | refine walkL_skip ?_ | refine walkL_block ?_ | (refine walkL_region fun K hK => ?_; simp (maxSteps := 4000000) only [go_sem]; refine hK _ ?_; clear hK K) | refine walkL_nil ?_ | refine walkL_ret ?_ | refine walkL_exit ?_ | refine blockA_here ?_ | refine blockA_other rfl ?_ | refine blockA_ret ?_ | refine blockA_normal ?_ | refine thenA_ret ?_ | refine thenA_exit ?_ | refine thenA_normal ?_)
    refine walkL_drawn (by kernel_rfl) (by kernel_rfl) fun K hK => ?_
    simp (maxSteps := 4000000) only [go_sem]
    refine ⟨_, .fn (hf := h76) (hd := rfl) (hr := .inr rfl), ?_⟩
    simp (maxSteps := 4000000) only [go_sem]
    refine ⟨_, .fnS (hdst := rfl) (hf := h80) (hd := rfl) (hr := .inl (rowsFlat_int _)) (hfr := rfl), ?_⟩
    simp (maxSteps := 4000000) only [go_sem]
    refine ⟨_, .fn (hf := h76') (hd := rfl) (hr := .inr rfl), ?_⟩
    simp (maxSteps := 4000000) only [go_sem]
    refine ⟨_, .fnS (hdst := rfl) (hf := h80') (hd := rfl) (hr := .inl (rowsFlat_int _)) (hfr := rfl), ?_⟩
    simp (maxSteps := 4000000) only [go_sem]
    refine ⟨by kernel_rfl, hK _ ?_⟩
    clear hK K
    repeat (first | refine walkL_seq ?_ | refine walkL_skip ?_ | refine walkL_block ?_ | (refine walkL_region fun K hK => ?_; simp (maxSteps := 4000000) only [go_sem]; refine hK _ ?_; clear hK K) | refine walkL_nil ?_ | refine walkL_ret ?_ | refine walkL_exit ?_ | refine blockA_here ?_ | refine blockA_other rfl ?_ | refine blockA_ret ?_ | refine blockA_normal ?_ | refine thenA_ret ?_ | refine thenA_exit ?_ | refine thenA_normal ?_)
    simp (maxSteps := 4000000) only [go_sem, refWithinL, hop]
end Go.Ab
namespace Go.Ab
open Go.RowKit Go.Proofs
set_option maxHeartbeats 4000000
set_option maxRecDepth 20000
attribute [local irreducible] WalkL Walk

theorem f47i (c : Int) (m : Nat) (h : m < 2 ^ 30) : FnS Try.prog 47 [.sl [[.i c]], .i m] 3 1 (intRows (List.replicate m c)) := by
  rw [← intRows_replicate]; exact f47 c m h

/-- One path, from the arrivals with k paths to those with one more. -/
def relaxS (p : Party) (now next : List Int) (w : Nat × Path) : List Int :=
  if getI now w.2.frm = never then next else next.set w.2.to.toNat (min (getI next w.2.to) (arriveF w.2.opens (getI now w.2.frm) (spanW w.2 p).hi))
def nextS (n : Net) (p : Party) (now : List Int) : List Int := (waysL n p (-1)).foldl (relaxS p now) (List.replicate n.places.toNat never)
def nowS (n : Net) (p : Party) (frm start : Int) (k : Nat) : List Int := iterL (nextS n p) k (arrivals0 n frm start)
def stepsL (n : Net) (p : Party) (frm start : Int) (k : Nat) : List (List Int) := (List.range (k + 1)).map (nowS n p frm start)

theorem relaxS_len (p : Party) (now next : List Int) (w : Nat × Path) : (relaxS p now next w).length = next.length := by unfold relaxS; split <;> simp
theorem foldS_len (p : Party) (now : List Int) : ∀ (ws : List (Nat × Path)) (l : List Int), (ws.foldl (relaxS p now) l).length = l.length
  | [], _ => rfl
  | w :: ws, l => by rw [List.foldl_cons, foldS_len p now ws, relaxS_len]
theorem nextS_len (n : Net) (p : Party) (now : List Int) : (nextS n p now).length = n.places.toNat := by rw [nextS, foldS_len]; simp
theorem nowS_len (n : Net) (p : Party) (frm start : Int) : ∀ k, (nowS n p frm start k).length = n.places.toNat
  | 0 => by simp [nowS, iterL, arrivals0]
  | k + 1 => nextS_len n p _

def slRows (ls : List (List Int)) : List (List DV) := ls.map fun l => [.sl (intRows l)]

theorem stepsL_succ (n : Net) (p : Party) (frm start : Int) (k : Nat) : slRows (stepsL n p frm start (k + 1)) = slRows (stepsL n p frm start k) ++ [[.sl (intRows (nextS n p (nowS n p frm start k)))]] := by
  simp only [slRows, stepsL]
  rw [List.range_succ (n := k + 1), List.map_append, List.map_append]
  rfl

theorem f45 (n : Net) (p : Party) (frm start : Int) (hn : n.Ok) (h1 : 1 ≤ n.places) (hfr : 0 ≤ frm ∧ frm < n.places) :
    FnS Try.prog 45 [.agg (walkCells n p), .i frm, .i start] 29 1 (slRows (stepsL n p frm start (n.places.toNat - 1))) := by
  obtain ⟨m, hm⟩ : ∃ m : Nat, n.places = m := ⟨n.places.toNat, by have := hn.places.1; omega⟩
  have hpl := hn.places
  have htn : n.places.toNat = m := by omega
  have h47 : FnS Try.prog 47 [.sl [[.i never]], .i n.places] 3 1 (intRows (List.replicate m never)) := by rw [hm]; exact f47i never m (by omega)
  have hw1 : IntKind.i64.wrap (n.places - 1) = n.places - 1 := wr_small (by omega)
  have hlt : frm.toNat < m := by omega
  have hg : (intRows (List.replicate m never))[frm.toNat]? = some [.i never] := by simp [intRows, hlt]
  have hrl : (intRows (List.replicate m never)).length = m := by simp [intRows]
  have hset : (List.replicate m never).set frm.toNat start = nowS n p frm start 0 := by rw [nowS, iterL, arrivals0, hm]; rfl
  have hg0 : (intRows (nowS n p frm start 0))[frm.toNat]? = some [.i start] := by rw [← hset]; simp [intRows, hlt]
  refine fnS_walk 73 Try.call45 Try.func45 rfl (by decide) fun J => ?_
  simp (maxSteps := 4000000) only [go_sem, St.start, Try.ntmps45, Try.results45, walkCells]
  repeat (first | refine walkL_seq ?_ | refine walkL_skip ?_ | refine walkL_block ?_ | (refine walkL_region fun K hK => ?_; simp (maxSteps := 4000000) only [go_sem]; refine hK _ ?_; clear hK K) | refine walkL_nil ?_ | refine walkL_ret ?_ | refine walkL_exit ?_ | refine blockA_here ?_ | refine blockA_other rfl ?_ | refine blockA_ret ?_ | refine blockA_normal ?_ | refine thenA_ret ?_ | refine thenA_exit ?_ | refine thenA_normal ?_)
  refine walkL_region fun K hK => ?_
  simp (maxSteps := 4000000) only [go_sem]
  refine ⟨_, .lentS (hdst := rfl) (hf := h47) (hd := rfl) (hr := rowsFlat_int _) (hfr := rfl), ?_⟩
  simp (maxSteps := 4000000) only [go_sem]
  refine hK _ ?_
  clear hK K
  repeat (first | refine walkL_seq ?_ | refine walkL_skip ?_ | refine walkL_block ?_ | (refine walkL_region fun K hK => ?_; simp (maxSteps := 4000000) only [go_sem, hlt, hg, hrl, hfr.1, intRows_set, hset, hw1, hg0]; refine hK _ ?_; clear hK K) | refine walkL_nil ?_ | refine walkL_ret ?_ | refine walkL_exit ?_ | refine blockA_here ?_ | refine blockA_other rfl ?_ | refine blockA_ret ?_ | refine blockA_normal ?_ | refine thenA_ret ?_ | refine thenA_exit ?_ | refine thenA_normal ?_)
  refine walkL_loopS (fun (k : Nat) => [(27, .d (.i k)), (8, .own 22), (22, .undef)]) (fun k => [(7, some (.box [.d (.sl (intRows (nowS n p frm start k)))])), (22, some (.arr 29 1 (slRows (stepsL n p frm start k))))]) (fun k => k ≤ m - 1) (fun k => m - 1 - k) 0 ?_ (Nat.zero_le _) ?_
  · simp (maxSteps := 4000000) only [go_sem]
    refine weak_of [] ?_ ?_ rfl rfl <;> simp [lessT, lessM, lessB, AV.less]
    rfl
  · intro k hk
    obtain ⟨now, hnow⟩ : ∃ now, now = nowS n p frm start k := ⟨_, rfl⟩
    have hnl : now.length = m := by rw [hnow, nowS_len]; exact htn
    have hsn := stepsL_succ n p frm start k
    rw [← hnow] at hsn ⊢
    obtain ⟨rows, hrows⟩ : ∃ rows, rows = slRows (stepsL n p frm start k) := ⟨_, rfl⟩
    have hrowl : rows.length = k + 1 := by rw [hrows]; simp [slRows, stepsL]
    rw [← hrows] at hsn ⊢
    simp (maxSteps := 4000000) only [go_sem]
    repeat (first | refine walkL_seq ?_ | refine walkL_skip ?_ | refine walkL_block ?_ | (refine walkL_region fun K hK => ?_; simp (maxSteps := 4000000) only [go_sem]; refine hK _ ?_; clear hK K) | refine walkL_nil ?_ | refine walkL_ret ?_ | refine walkL_exit ?_ | refine blockA_here ?_ | refine blockA_other rfl ?_ | refine blockA_ret ?_ | refine blockA_normal ?_ | refine thenA_ret ?_ | refine thenA_exit ?_ | refine thenA_normal ?_)
    refine walkL_cond rfl (fun hb => ?_) (fun hb => ?_)
    · have hb : (k : Int) < n.places - 1 := by simpa using hb
      have hlk : k < m - 1 := by omega
      have hw : IntKind.i64.wrap ((k : Int) + 1) = ((k + 1 : Nat) : Int) := by rw [wr_small (by omega)]; simp
      repeat (first | refine walkL_seq ?_ | refine walkL_skip ?_ | refine walkL_block ?_ | (refine walkL_region fun K hK => ?_; simp (maxSteps := 4000000) only [go_sem]; refine hK _ ?_; clear hK K) | refine walkL_nil ?_ | refine walkL_ret ?_ | refine walkL_exit ?_ | refine blockA_here ?_ | refine blockA_other rfl ?_ | refine blockA_ret ?_ | refine blockA_normal ?_ | refine thenA_ret ?_ | refine thenA_exit ?_ | refine thenA_normal ?_)
      refine walkL_region fun K hK => ?_
      simp (maxSteps := 4000000) only [go_sem]
      refine ⟨_, .lentS (hdst := rfl) (hf := h47) (hd := rfl) (hr := rowsFlat_int _) (hfr := rfl), ?_⟩
      simp (maxSteps := 4000000) only [go_sem]
      refine hK _ ?_
      clear hK K
      repeat (first | refine walkL_seq ?_ | refine walkL_skip ?_ | refine walkL_block ?_ | (refine walkL_region fun K hK => ?_; simp (maxSteps := 4000000) only [go_sem]; (repeat (first | (refine ⟨_, .lent (hf := f48 n p (-1)) (hd := rfl) (hr := rfl), ?_⟩; simp (maxSteps := 4000000) only [go_sem]) | (refine ⟨_, .given (hf := f48 n p (-1)) (hd := rfl) (ha := rfl), ?_⟩; simp (maxSteps := 4000000) only [go_sem]))); refine hK _ ?_; clear hK K) | refine walkL_nil ?_ | refine walkL_ret ?_ | refine walkL_exit ?_ | refine blockA_here ?_ | refine blockA_other rfl ?_ | refine blockA_ret ?_ | refine blockA_normal ?_ | refine thenA_ret ?_ | refine thenA_exit ?_ | refine thenA_normal ?_)
      refine walkL_rangeS (g := .tmp 35) rfl (iter87 n p (-1) (by have := hn.paths; omega)) (by intro row hr; obtain ⟨w, _, rfl⟩ := List.mem_map.1 hr; rfl) (fun _ => []) (fun (a : List Int) => [(33, some (.arr 3 1 (intRows a)))])
        (fun i a => a = ((waysL n p (-1)).take i).foldl (relaxS p now) (List.replicate m never)) (fun _ _ => False) (List.replicate m never) ?_ rfl ?_ ?_ (fun _ _ h => h.elim)
      · simp (maxSteps := 4000000) only [go_sem]
        refine weak_of [] ?_ ?_ rfl rfl <;> simp [lessT, lessM, lessB, AV.less]
      · intro i a row hi ha l2 m2
        simp only [List.getElem?_map, Option.map_eq_some_iff] at hi
        obtain ⟨w, hw1, rfl⟩ := hi
        have hx := waysL_get (List.mem_of_getElem? hw1)
        have hmem := List.mem_of_getElem? hx
        have hlen : a.length = m := by rw [ha, foldS_len]; simp
        have hf := hn.frm w.2 hmem
        have ht := hn.to w.2 hmem
        have g1 : (intRows a)[w.2.to.toNat]? = some [.i (getI a w.2.to)] := intRows_get ht.1 (by omega)
        have g2 : (intRows now)[w.2.frm.toNat]? = some [.i (getI now w.2.frm)] := intRows_get hf.1 (by omega)
        have g3 : w.2.to.toNat < (intRows a).length := by rw [intRows_len]; omega
        have g4 : w.2.frm.toNat < (intRows now).length := by rw [intRows_len]; omega
        have h50 := f50 n p w.1 w.2 (getI now w.2.frm) (spanW w.2 p).hi hx (by have := hn.opens w.2 hmem; omega)
        have h51 := f51 n p w.1 w.2 hx
        have hnext : ((waysL n p (-1)).take (i + 1)).foldl (relaxS p now) (List.replicate m never) = relaxS p now a w := by rw [ha]; exact foldl_take_succ _ _ _ _ _ hw1
        simp (maxSteps := 4000000) only [go_sem, wayRow, Path.row]
        repeat (first | refine walkL_seq ?_ | refine walkL_skip ?_ | refine walkL_block ?_ | (refine walkL_region fun K hK => ?_; simp (maxSteps := 4000000) only [go_sem, g1, g2, g3, g4, ht.1, hf.1]; refine hK _ ?_; clear hK K) | refine walkL_nil ?_ | refine walkL_ret ?_ | refine walkL_exit ?_ | refine blockA_here ?_ | refine blockA_other rfl ?_ | refine blockA_ret ?_ | refine blockA_normal ?_ | refine thenA_ret ?_ | refine thenA_exit ?_ | refine thenA_normal ?_)
        refine walkL_cond rfl (fun hc => ?_) (fun hc => ?_)
        · have hnv : ¬ getI now w.2.frm = never := by intro e; rw [e] at hc; simp [never] at hc
          repeat (first | refine walkL_seq ?_ | refine walkL_skip ?_ | refine walkL_block ?_ | (refine walkL_region fun K hK => ?_; simp (maxSteps := 4000000) only [go_sem]; refine hK _ ?_; clear hK K) | refine walkL_nil ?_ | refine walkL_ret ?_ | refine walkL_exit ?_ | refine blockA_here ?_ | refine blockA_other rfl ?_ | refine blockA_ret ?_ | refine blockA_normal ?_ | refine thenA_ret ?_ | refine thenA_exit ?_ | refine thenA_normal ?_)
          refine walkL_drawn (by kernel_rfl) (by kernel_rfl) fun K hK => ?_
          simp (maxSteps := 4000000) only [go_sem, g1, g2, g3, g4, ht.1, hf.1]
          refine ⟨_, .fn (hf := h51) (hd := rfl) (hr := .inl rfl), ?_⟩
          simp (maxSteps := 4000000) only [go_sem, Span.row, g1, g2, g3, g4, ht.1, hf.1]
          refine ⟨_, .fn (hf := h50) (hd := rfl) (hr := .inl rfl), ?_⟩
          simp (maxSteps := 4000000) only [go_sem, g1, g2, g3, g4, ht.1, hf.1]
          refine ⟨by kernel_rfl, hK _ ?_⟩
          clear hK K
          repeat (first | refine walkL_seq ?_ | refine walkL_skip ?_ | refine walkL_block ?_ | (refine walkL_region fun K hK => ?_; simp (maxSteps := 4000000) only [go_sem]; refine hK _ ?_; clear hK K) | refine walkL_nil ?_ | refine walkL_ret ?_ | refine walkL_exit ?_ | refine blockA_here ?_ | refine blockA_other rfl ?_ | refine blockA_ret ?_ | refine blockA_normal ?_ | refine thenA_ret ?_ | refine thenA_exit ?_ | refine thenA_normal ?_)
          refine ⟨rfl, relaxS p now a w, ?_, hnext.symm⟩
          rw [relaxS, if_neg hnv, ← intRows_set]
          simp (maxSteps := 4000000) only [go_sem]
          refine weak_of [] ?_ ?_ rfl rfl <;> simp [lessT, lessM, lessB, AV.less]
        · have hcv : getI now w.2.frm = never := by simpa [never] using hc
          repeat (first | refine walkL_seq ?_ | refine walkL_skip ?_ | refine walkL_block ?_ | (refine walkL_region fun K hK => ?_; simp (maxSteps := 4000000) only [go_sem]; refine hK _ ?_; clear hK K) | refine walkL_nil ?_ | refine walkL_ret ?_ | refine walkL_exit ?_ | refine blockA_here ?_ | refine blockA_other rfl ?_ | refine blockA_ret ?_ | refine blockA_normal ?_ | refine thenA_ret ?_ | refine thenA_exit ?_ | refine thenA_normal ?_)
          refine ⟨rfl, relaxS p now a w, ?_, hnext.symm⟩
          rw [relaxS, if_pos hcv]
          simp (maxSteps := 4000000) only [go_sem]
          refine weak_of [] ?_ ?_ rfl rfl <;> simp [lessT, lessM, lessB, AV.less]
      · intro a ha
        rw [List.length_map, List.take_length] at ha
        have ha : a = nextS n p now := by rw [ha, nextS, htn]
        have hfit : rows.length + 1 ≤ 549755813888 := by omega
        simp (maxSteps := 4000000) only [go_sem]
        repeat (first | refine walkL_seq ?_ | refine walkL_skip ?_ | refine walkL_block ?_ | (refine walkL_region fun K hK => ?_; simp (maxSteps := 4000000) only [go_sem, hfit, hw]; refine hK _ ?_; clear hK K) | refine walkL_nil ?_ | refine walkL_ret ?_ | refine walkL_exit ?_ | refine blockA_here ?_ | refine blockA_other rfl ?_ | refine blockA_ret ?_ | refine blockA_normal ?_ | refine thenA_ret ?_ | refine thenA_exit ?_ | refine thenA_normal ?_)
        have hnow1 : nowS n p frm start (k + 1) = a := by rw [ha, hnow]; rfl
        refine ⟨rfl, k + 1, ?_, by omega, by omega⟩
        rw [hnow1, hsn, ← ha]
        refine weak_of [] ?_ ?_ rfl rfl <;> simp [lessT, lessM, lessB, AV.less]
    · have he : k = m - 1 := by (have : ¬ (k : Int) < n.places - 1 := by simpa using hb); omega
      subst he
      repeat (first | refine walkL_seq ?_ | refine walkL_skip ?_ | refine walkL_block ?_ | (refine walkL_region fun K hK => ?_; simp (maxSteps := 4000000) only [go_sem]; refine hK _ ?_; clear hK K) | refine walkL_nil ?_ | refine walkL_ret ?_ | refine walkL_exit ?_ | refine blockA_here ?_ | refine blockA_other rfl ?_ | refine blockA_ret ?_ | refine blockA_normal ?_ | refine thenA_ret ?_ | refine thenA_exit ?_ | refine thenA_normal ?_)
      simp (maxSteps := 4000000) only [go_sem, hrows, htn]
end Go.Ab
namespace Go.Ab
open Go.RowKit Go.Proofs
set_option maxHeartbeats 8000000
set_option maxRecDepth 40000
attribute [local irreducible] WalkL Walk

theorem f46 (l : List Int) (to arr : Int) (h : 0 ≤ to ∧ to.toNat < l.length) : Fn Try.prog 46 [.sl (intRows l), .ptr [.i to] 0, .ptr [.i arr] 0] (.bool (getI l to == arr)) := by
  have hg : (intRows l)[to.toNat]? = some [.i (getI l to)] := intRows_get h.1 h.2
  refine fn_walk 11 Try.call46 Try.func46 rfl (by decide) fun J => ?_
  simp (maxSteps := 4000000) only [go_sem, St.start, Try.ntmps46, Try.results46]
  repeat (first | refine walkL_seq ?_ | refine walkL_skip ?_ | refine walkL_block ?_ | (refine walkL_region fun K hK => ?_; simp (maxSteps := 4000000) only [go_sem]; refine hK _ ?_; clear hK K) | refine walkL_nil ?_ | refine walkL_ret ?_ | refine walkL_exit ?_ | refine blockA_here ?_ | refine blockA_other rfl ?_ | refine blockA_ret ?_ | refine blockA_normal ?_ | refine thenA_ret ?_ | refine thenA_exit ?_ | refine thenA_normal ?_)
  refine walkL_drawn (by kernel_rfl) (by kernel_rfl) fun K hK => ?_
  simp (maxSteps := 4000000) only [go_sem, hg, h.1]
  refine ⟨by kernel_rfl, hK _ ?_⟩
  clear hK K
  repeat (first | refine walkL_seq ?_ | refine walkL_skip ?_ | refine walkL_block ?_ | (refine walkL_region fun K hK => ?_; simp (maxSteps := 4000000) only [go_sem]; refine hK _ ?_; clear hK K) | refine walkL_nil ?_ | refine walkL_ret ?_ | refine walkL_exit ?_ | refine blockA_here ?_ | refine blockA_other rfl ?_ | refine blockA_ret ?_ | refine blockA_normal ?_ | refine thenA_ret ?_ | refine thenA_exit ?_ | refine thenA_normal ?_)
  simp (maxSteps := 4000000) only [go_sem]

/-- When the party must be at each place, with so many paths to go. -/
def relaxBy (p : Party) (cur next : List Int) (w : Nat × Path) : List Int :=
  next.set w.2.frm.toNat (max (getI next w.2.frm) (latestF w.2.opens (wr (getI cur w.2.to - (spanW w.2 p).hi))))
def byNext (n : Net) (p : Party) (cur : List Int) : List Int := (waysL n p (-1)).foldl (relaxBy p cur) (List.replicate n.places.toNat (-1))
def byL (n : Net) (p : Party) (to arr : Int) (k : Nat) : List Int := iterL (byNext n p) k (deadlines0 n to arr)

theorem relaxBy_len (p : Party) (cur next : List Int) (w : Nat × Path) : (relaxBy p cur next w).length = next.length := by unfold relaxBy; simp
theorem foldBy_len (p : Party) (cur : List Int) : ∀ (ws : List (Nat × Path)) (l : List Int), (ws.foldl (relaxBy p cur) l).length = l.length
  | [], _ => rfl
  | w :: ws, l => by rw [List.foldl_cons, foldBy_len p cur ws, relaxBy_len]
theorem byNext_len (n : Net) (p : Party) (cur : List Int) : (byNext n p cur).length = n.places.toNat := by rw [byNext, foldBy_len]; simp
theorem byL_len (n : Net) (p : Party) (to arr : Int) : ∀ k, (byL n p to arr k).length = n.places.toNat
  | 0 => by simp [byL, iterL, deadlines0]
  | k + 1 => byNext_len n p _

/-- A route as far as it goes, where it ends, and when. -/
abbrev RSt := List Int × Int × Int
def fitsR (p : Party) (cur : List Int) (s : RSt) (w : Nat × Path) : Bool := (w.2.frm == s.2.1) && decide (arriveF w.2.opens s.2.2 (spanW w.2 p).hi ≤ getI cur w.2.to)
def stepR (n : Net) (p : Party) (cur : List Int) (s : RSt) : RSt := match (waysL n p (-1)).find? (fitsR p cur s) with
  | some w => (s.1 ++ [(w.1 : Int)], w.2.to, arriveF w.2.opens s.2.2 (spanW w.2 p).hi)
  | none => s
def routeD (n : Net) (p : Party) (to arr : Int) : Nat → RSt → RSt
  | 0, s => s
  | k + 1, s => routeD n p to arr k (stepR n p (byL n p to arr k) s)

/-- With how few paths the arrival is reached. -/
def fewest (n : Net) (p : Party) (frm start to arr : Int) : Int := idxFrom (fun l => getI l to == arr) (stepsL n p frm start (n.places.toNat - 1)) 0

def routeL (n : Net) (p : Party) (frm start to : Int) : List Int × Int × Int :=
  if openF n p [frm, to] [start] = 0 then
    (let arr := getI (arrivalsL n p spanHi frm start (-1)) to
     if arr = never then ([], 0, 3) else ((routeD n p to arr (fewest n p frm start to arr).toNat ([], frm, start)).1, arr, 0))
  else ([], 0, openF n p [frm, to] [start])

def bySt (n : Net) (p : Party) (to arr : Int) (k : Nat) : List (Option Blk) := (List.range (k + 1)).map fun i => some (.arr 3 1 (intRows (byL n p to arr i)))
def byRow (K k : Nat) : List AV := (List.range (k + 1)).map (fun i => AV.own (i + 162)) ++ List.replicate (K - k) (.d (.sl []))

theorem bySt_len (n : Net) (p : Party) (to arr : Int) (k : Nat) : (bySt n p to arr k).length = k + 1 := by simp [bySt]
theorem bySt_all (n : Net) (p : Party) (to arr : Int) (k : Nat) : (bySt n p to arr k).all Option.isSome = true := by simp [bySt]
theorem bySt_get (n : Net) (p : Party) (to arr : Int) (k i : Nat) (h : i ≤ k) : (bySt n p to arr k)[i]? = some (some (.arr 3 1 (intRows (byL n p to arr i)))) := by
  simp [bySt, show i < k + 1 by omega]
theorem bySt_map (n : Net) (p : Party) (to arr : Int) (k : Nat) (h : Nat → Option Nat) : (bySt n p to arr k).map (Option.map (Blk.mapN h)) = bySt n p to arr k := by
  simp [bySt, Blk.mapN]
theorem bySt_succ (n : Net) (p : Party) (to arr : Int) (k : Nat) : bySt n p to arr (k + 1) = bySt n p to arr k ++ [some (.arr 3 1 (intRows (byNext n p (byL n p to arr k))))] := by
  rw [bySt, List.range_succ, List.map_append]; rfl
theorem byRow_len (K k : Nat) (h : k ≤ K) : (byRow K k).length = K + 1 := by simp [byRow]; omega
theorem byRow_get (K k i : Nat) (h : i ≤ k) : (byRow K k)[i]? = some (.own (i + 162)) := by
  unfold byRow
  rw [List.getElem?_append_left (by simp; omega)]
  simp [show i < k + 1 by omega]
theorem byRow_move (K k : Nat) (h : k < K) : ((byRow K k).take (k + 1) ++ (AV.own 82 :: (byRow K k).drop (k + 1 + 1))).map (AV.mapN (mv 82 (k + 1 + 162))) = byRow K (k + 1) := by
  have h1 : (byRow K k).take (k + 1) = (List.range (k + 1)).map fun i => AV.own (i + 162) := by
    unfold byRow; exact List.take_left' (by simp)
  have h2 : (byRow K k).drop (k + 1 + 1) = List.replicate (K - (k + 1)) (.d (.sl [])) := by
    unfold byRow
    rw [List.drop_append]
    simp only [List.length_map, List.length_range, List.drop_replicate]
    rw [List.drop_eq_nil_of_le (by simp), List.nil_append]
    congr 1
    omega
  rw [h1, h2]
  rw [List.map_append, List.map_map, List.map_cons, List.map_replicate]
  simp only [AV.mapN]
  have e : mv 82 (k + 1 + 162) 82 = some (k + 1 + 162) := by simp [mv]
  rw [e]
  unfold byRow
  rw [List.range_succ (n := k + 1), List.map_append, List.append_assoc]
  congr 1
theorem lessM_refl {news : List Nat} : ∀ {m : List (Option Blk)} {i : Nat}, (∀ n ∈ news, n < i) → lessM news i m m
  | [], _, _ => trivial
  | x :: m, i, h => by
    have hi : i ∉ news := fun hc => by have := h i hc; omega
    refine ⟨?_, lessM_refl fun n hn => Nat.lt_succ_of_lt (h n hn)⟩
    match x with
    | none => exact .inr rfl
    | some (.box r) => exact ⟨hi, lessT_refl _ _⟩
    | some (.arr e z rows) => exact ⟨hi, rfl, rfl, rfl⟩
theorem lessM_by (n : Net) (p : Party) (to arr : Int) (k : Nat) (b : Option Blk) : lessM [] 162 (bySt n p to arr k ++ [b]) (bySt n p to arr k ++ [b]) := lessM_refl (by simp)
theorem lessM_by0 (n : Net) (p : Party) (to arr : Int) (k : Nat) : lessM [] 162 (bySt n p to arr k) (bySt n p to arr k) := lessM_refl (by simp)
theorem lessM_by155 (n : Net) (p : Party) (to arr : Int) (k : Nat) : lessM [155] 162 (bySt n p to arr k) (bySt n p to arr k) := lessM_refl (by simp)
theorem liveM_arrs {m : List (Option Blk)} : ∀ {l : List (Option Blk)}, (∀ x ∈ l, ∃ e z rows, x = some (.arr e z rows)) → liveM m l = true
  | [], _ => rfl
  | x :: l, h => by
    obtain ⟨e, z, rows, rfl⟩ := h x (by simp)
    exact liveM_arrs (l := l) fun y hy => h y (by simp [hy])
theorem liveM_by0 (m : List (Option Blk)) (n : Net) (p : Party) (to arr : Int) (k : Nat) : liveM m (bySt n p to arr k) = true :=
  liveM_arrs fun x hx => by obtain ⟨i, _, rfl⟩ := List.mem_map.1 hx; exact ⟨_, _, _, rfl⟩
theorem liveM_by (m : List (Option Blk)) (n : Net) (p : Party) (to arr : Int) (k e z : Nat) (rows : List (List DV)) : liveM m (bySt n p to arr k ++ [some (.arr e z rows)]) = true :=
  liveM_arrs fun x hx => by
    rcases List.mem_append.1 hx with hx | hx
    · obtain ⟨i, _, rfl⟩ := List.mem_map.1 hx; exact ⟨_, _, _, rfl⟩
    · simp at hx; exact ⟨_, _, _, hx⟩
theorem live_by {m : List (Option Blk)} {K k : Nat} (h1 : (m.drop 162).length = k + 1) (h2 : (m.drop 162).all Option.isSome = true) : (byRow K k).all (liveB m) = true := by
  rw [List.all_eq_true]
  intro x hx
  unfold byRow at hx
  rcases List.mem_append.1 hx with hx | hx
  · obtain ⟨i, hi, rfl⟩ := List.mem_map.1 hx
    have hi : i < k + 1 := by simpa using hi
    have hlt : i < (m.drop 162).length := by omega
    have hs := List.all_eq_true.1 h2 ((m.drop 162)[i]) (List.getElem_mem hlt)
    obtain ⟨b, hb⟩ := Option.isSome_iff_exists.1 hs
    have : m[i + 162]? = some (some b) := by
      rw [Nat.add_comm, ← List.getElem?_drop, List.getElem?_eq_getElem hlt, hb]
    simp [liveB, AV.refs, this]
  · rw [List.eq_of_mem_replicate hx]; rfl

theorem byRow_sub (K k a : Nat) (f : AV → AV) (ha : a < 162) : (byRow K k).map (AV.sub a f) = byRow K k := by
  unfold byRow
  rw [List.map_append, List.map_map, List.map_replicate]
  congr 1
  refine List.map_congr_left fun i _ => ?_
  have : ¬ i + 162 = a := by omega
  simp [AV.sub, this]
theorem subMem_arrs (a : Nat) (f : AV → AV) : ∀ {l : List (Option Blk)}, (∀ x ∈ l, ∃ e z rows, x = some (.arr e z rows)) → subMem a f l = l
  | [], _ => rfl
  | x :: l, h => by
    obtain ⟨e, z, rows, rfl⟩ := h x (by simp)
    rw [subMem, subMem_arrs a f fun y hy => h y (by simp [hy])]
    rfl
theorem bySt_sub (n : Net) (p : Party) (to arr : Int) (k a : Nat) (f : AV → AV) : subMem a f (bySt n p to arr k) = bySt n p to arr k :=
  subMem_arrs a f fun x hx => by obtain ⟨i, _, rfl⟩ := List.mem_map.1 hx; exact ⟨_, _, _, rfl⟩

theorem find_take_succ {α : Type} {q : α → Bool} {l : List α} {i : Nat} {x : α} (h : l[i]? = some x) (h0 : (l.take i).find? q = none) (hx : q x = false) : (l.take (i + 1)).find? q = none := by
  rw [List.take_add_one, h, List.find?_append, h0]; simp [hx]
theorem find_at {α : Type} {q : α → Bool} {l : List α} {i : Nat} {x : α} (h : l[i]? = some x) (h0 : (l.take i).find? q = none) (hx : q x = true) : l.find? q = some x := by
  rw [← List.take_append_drop i l, List.find?_append, h0, drop_get h]; simp [hx]

theorem f15 (n : Net) (p : Party) (frm start to : Int) (hs : n.Small)
    (hfew : openF n p [frm, to] [start] = 0 → getI (arrivalsL n p spanHi frm start (-1)) to ≠ never → ∃ K : Nat, fewest n p frm start to (getI (arrivalsL n p spanHi frm start (-1)) to) = K ∧ K < 2 ^ 20) :
    Fn Try.prog 15 [.agg n.cells, .agg p.cells, .i frm, .i start, .i to]
    (.tup [.sl (intRows (routeL n p frm start to).1), .i (routeL n p frm start to).2.1, .i (routeL n p frm start to).2.2]) := by
  have h41 := f41 n p [frm, to] [start] hs (by simp) (by simp)
  refine fn_walk 162 Try.call15 Try.func15 rfl (by decide) fun J => ?_
  simp (maxSteps := 4000000) only [go_sem, St.start, Try.ntmps15, Try.results15, Net.cells, Party.cells]
  repeat (first | refine walkL_seq ?_ | refine walkL_skip ?_ | refine walkL_block ?_ | (refine walkL_region fun K hK => ?_; simp (maxSteps := 4000000) only [go_sem, walkCells]; (repeat (first | (refine ⟨_, .lent (hf := h41) (hd := rfl) (hr := rfl), ?_⟩; simp (maxSteps := 4000000) only [go_sem, walkCells]) | (refine ⟨_, .given (hf := h41) (hd := rfl) (ha := rfl), ?_⟩; simp (maxSteps := 4000000) only [go_sem, walkCells]))); refine hK _ ?_; clear hK K) | refine walkL_nil ?_ | refine walkL_ret ?_ | refine walkL_exit ?_ | refine blockA_here ?_ | refine blockA_other rfl ?_ | refine blockA_ret ?_ | refine blockA_normal ?_ | refine thenA_ret ?_ | refine thenA_exit ?_ | refine thenA_normal ?_)
  refine walkL_cond rfl (fun hc => ?_) (fun hc => ?_)
  · have hc : ¬ openF n p [frm, to] [start] = 0 := by simpa using hc
    repeat (first | refine walkL_seq ?_ | refine walkL_skip ?_ | refine walkL_block ?_ | (refine walkL_region fun K hK => ?_; simp (maxSteps := 4000000) only [go_sem]; refine hK _ ?_; clear hK K) | refine walkL_nil ?_ | refine walkL_ret ?_ | refine walkL_exit ?_ | refine blockA_here ?_ | refine blockA_other rfl ?_ | refine blockA_ret ?_ | refine blockA_normal ?_ | refine thenA_ret ?_ | refine thenA_exit ?_ | refine thenA_normal ?_)
    simp (maxSteps := 4000000) only [go_sem, routeL, hc]
    rfl
  have hop : openF n p [frm, to] [start] = 0 := by simpa using hc
  have ho := open_iff.1 hop
  have hfr := ho.place frm (by simp)
  have hto := ho.place to (by simp)
  have hpl := ho.net.places
  have hlen := arrivals_len n p spanHi frm start (-1)
  obtain ⟨arr, harr⟩ : ∃ arr, arr = getI (arrivalsL n p spanHi frm start (-1)) to := ⟨_, rfl⟩
  have hrl : routeL n p frm start to = if arr = never then ([], 0, 3) else ((routeD n p to arr (fewest n p frm start to arr).toNat ([], frm, start)).1, arr, 0) := by
    rw [routeL, if_pos hop, harr]
  rw [hrl]
  have hg : (intRows (arrivalsL n p spanHi frm start (-1)))[to.toNat]? = some [.i arr] := by rw [harr]; exact intRows_get hto.1 (by omega)
  have hlt : to.toNat < (intRows (arrivalsL n p spanHi frm start (-1))).length := by rw [intRows_len]; omega
  have h42 := f42 n p frm start (-1) 43 spanHi (fun s => f43 s) ho.net.ok hfr
  repeat (first | refine walkL_seq ?_ | refine walkL_skip ?_ | refine walkL_block ?_ | (refine walkL_region fun K hK => ?_; simp (maxSteps := 4000000) only [go_sem]; refine hK _ ?_; clear hK K) | refine walkL_nil ?_ | refine walkL_ret ?_ | refine walkL_exit ?_ | refine blockA_here ?_ | refine blockA_other rfl ?_ | refine blockA_ret ?_ | refine blockA_normal ?_ | refine thenA_ret ?_ | refine thenA_exit ?_ | refine thenA_normal ?_)
  refine walkL_drawn (by kernel_rfl) (by kernel_rfl) fun K hK => ?_
  simp (maxSteps := 4000000) only [go_sem]
  refine ⟨_, .fnS (hdst := rfl) (hf := h42) (hd := rfl) (hr := .inr rfl) (hfr := rfl), ?_⟩
  simp (maxSteps := 4000000) only [go_sem, hg, hlt, hto.1]
  refine ⟨by kernel_rfl, hK _ ?_⟩
  clear hK K
  repeat (first | refine walkL_seq ?_ | refine walkL_skip ?_ | refine walkL_block ?_ | (refine walkL_region fun K hK => ?_; simp (maxSteps := 4000000) only [go_sem]; refine hK _ ?_; clear hK K) | refine walkL_nil ?_ | refine walkL_ret ?_ | refine walkL_exit ?_ | refine blockA_here ?_ | refine blockA_other rfl ?_ | refine blockA_ret ?_ | refine blockA_normal ?_ | refine thenA_ret ?_ | refine thenA_exit ?_ | refine thenA_normal ?_)
  refine walkL_cond rfl (fun hc => ?_) (fun hc => ?_)
  · have hc : arr = never := by simpa [never] using hc
    repeat (first | refine walkL_seq ?_ | refine walkL_skip ?_ | refine walkL_block ?_ | (refine walkL_region fun K hK => ?_; simp (maxSteps := 4000000) only [go_sem]; refine hK _ ?_; clear hK K) | refine walkL_nil ?_ | refine walkL_ret ?_ | refine walkL_exit ?_ | refine blockA_here ?_ | refine blockA_other rfl ?_ | refine blockA_ret ?_ | refine blockA_normal ?_ | refine thenA_ret ?_ | refine thenA_exit ?_ | refine thenA_normal ?_)
    simp (maxSteps := 4000000) only [go_sem, hc]
    rfl
  have hnv : ¬ arr = never := by intro e; rw [e] at hc; simp [never] at hc
  obtain ⟨kn, hKe, hKb⟩ := hfew hop (by rw [← harr]; exact hnv)
  rw [← harr] at hKe
  have h45 := f45 n p frm start ho.net.ok hpl.1 hfr
  have h46 : ∀ l ∈ stepsL n p frm start (n.places.toNat - 1), Fn Try.prog 46 [.sl (intRows l), .ptr [.i to] 0, .ptr [.i arr] 0] (.bool (getI l to == arr)) := by
    intro l hl
    obtain ⟨k, _, rfl⟩ := List.mem_map.1 hl
    exact f46 _ to arr ⟨hto.1, by rw [nowS_len]; omega⟩
  have h44 := f44 (stepsL n p frm start (n.places.toNat - 1)) 46 [.ptr [.i to] 0, .ptr [.i arr] 0] _ h46 (by simp [stepsL]; omega)
  rw [show idxFrom (fun s => getI s to == arr) (stepsL n p frm start (n.places.toNat - 1)) 0 = (kn : Int) from hKe] at h44
  repeat (first | refine walkL_seq ?_ | refine walkL_skip ?_ | refine walkL_block ?_ | (refine walkL_region fun K hK => ?_; simp (maxSteps := 4000000) only [go_sem]; refine hK _ ?_; clear hK K) | refine walkL_nil ?_ | refine walkL_ret ?_ | refine walkL_exit ?_ | refine blockA_here ?_ | refine blockA_other rfl ?_ | refine blockA_ret ?_ | refine blockA_normal ?_ | refine thenA_ret ?_ | refine thenA_exit ?_ | refine thenA_normal ?_)
  refine walkL_region fun K hK => ?_
  simp (maxSteps := 4000000) only [go_sem]
  refine ⟨_, .givenS (hdst := rfl) (hf := h45) (hd := rfl) (ha := rfl) (hfr := rfl), ?_⟩
  simp (maxSteps := 4000000) only [go_sem]
  refine ⟨_, .lent (hf := h44) (hd := rfl) (hr := rfl), ?_⟩
  simp (maxSteps := 4000000) only [go_sem]
  refine hK _ ?_
  clear hK K
  have hw1 : IntKind.i64.wrap ((kn : Int) + 1) = ((kn + 1 : Nat) : Int) := by rw [wr_small (by omega)]; simp
  have hmk : ((kn + 1 : Nat) : Int) ≤ 1099511627776 := by omega
  refine walkL_seq ?_
  refine walkL_region fun K hK => ?_
  simp (maxSteps := 4000000) only [go_sem, hw1, hmk]
  refine hK _ ?_
  clear hK K
  refine walkL_seq ?_
  refine walkL_boxes 57 ?_
  simp (maxSteps := 4000000) only [go_sem, List.map_replicate]
  refine walkL_forget [25, 26, 27, 28, 29, 30, 31, 32, 33, 34, 35, 36, 37, 38, 39, 40, 41, 42, 43, 44, 45, 46, 47, 48, 49, 50, 51, 52, 53, 54, 55, 56] ?_ ?_
  · simp (maxSteps := 4000000) only [go_sem]
    refine weak_of [] ?_ ?_ ?_ ?_
    · simp [lessT, lessT_refl, AV.less]
    · simp [lessM, lessB, lessT, lessT_refl, AV.less, List.all_replicate]
    · first | rfl | simp [liveB, AV.refs, AV.refs.AV.refss, List.all_replicate]
    · first | rfl | simp [liveM, liveB, AV.refs, AV.refs.AV.refss, List.all_replicate]
  simp (maxSteps := 4000000) only [go_sem]
  obtain ⟨m, hm⟩ : ∃ m : Nat, n.places = m := ⟨n.places.toNat, by omega⟩
  have hpos : 0 < kn + 1 := by omega
  have htn : n.places.toNat = m := by omega
  have h47 : FnS Try.prog 47 [.sl [[.i (-1)]], .i n.places] 3 1 (intRows (List.replicate m (-1))) := by rw [hm]; exact f47i (-1) m (by omega)
  refine walkL_drawn (by kernel_rfl) (by kernel_rfl) fun K hK => ?_
  simp (maxSteps := 4000000) only [go_sem]
  refine ⟨_, .fnS (hdst := rfl) (hf := h47) (hd := rfl) (hr := .inl (rowsFlat_int _)) (hfr := rfl), ?_⟩
  simp (maxSteps := 4000000) only [go_sem, Nat.le_add_left, hpos]
  refine ⟨by kernel_rfl, hK _ ?_⟩
  clear hK K
  refine walkL_seq ?_
  refine walkL_move 63 ?_
  simp (maxSteps := 4000000) only [go_sem, List.map_replicate]
  refine walkL_forget [58, 59, 60, 61, 62, 63, 64] ?_ ?_
  · simp (maxSteps := 4000000) only [go_sem]
    refine weak_of [] ?_ ?_ ?_ ?_
    · simp [lessT, lessT_refl, AV.less]
    · simp [lessM, lessB, lessT, lessT_refl, AV.less, List.all_replicate]
    · first | rfl | simp [liveB, AV.refs, AV.refs.AV.refss, List.all_replicate]
    · first | rfl | simp [liveM, liveB, AV.refs, AV.refs.AV.refss, List.all_replicate]
  simp (maxSteps := 4000000) only [go_sem]
  have hltm : to.toNat < m := by omega
  have hg0 : (intRows (List.replicate m (-1)))[to.toNat]? = some [.i (-1)] := by simp [intRows, hltm]
  have hl0 : to.toNat < (intRows (List.replicate m (-1))).length := by simp [intRows, hltm]
  have hset0 : (List.replicate m (-1)).set to.toNat arr = byL n p to arr 0 := by rw [byL, iterL, deadlines0, htn]
  refine walkL_drawn (by kernel_rfl) (by kernel_rfl) fun K hK => ?_
  simp (maxSteps := 4000000) only [go_sem, hg0, hl0, hto.1, intRows_set, hset0, hpos]
  refine ⟨by kernel_rfl, hK _ ?_⟩
  clear hK K
  repeat (first | refine walkL_seq ?_ | refine walkL_skip ?_ | refine walkL_block ?_ | (refine walkL_region fun K hK => ?_; simp (maxSteps := 4000000) only [go_sem]; refine hK _ ?_; clear hK K) | refine walkL_nil ?_ | refine walkL_ret ?_ | refine walkL_exit ?_ | refine blockA_here ?_ | refine blockA_other rfl ?_ | refine blockA_ret ?_ | refine blockA_normal ?_ | refine thenA_ret ?_ | refine thenA_exit ?_ | refine thenA_normal ?_)
  refine walkL_forget [65, 66, 67, 68, 69, 70] ?_ ?_
  · simp (maxSteps := 4000000) only [go_sem]
    refine weak_of [] ?_ ?_ ?_ ?_
    · simp [lessT, lessT_refl, AV.less]
    · simp [lessM, lessB, lessT, lessT_refl, AV.less, List.all_replicate]
    · first | rfl | simp [liveB, AV.refs, AV.refs.AV.refss, List.all_replicate]
    · first | rfl | simp [liveM, liveB, AV.refs, AV.refs.AV.refss, List.all_replicate]
  simp (maxSteps := 4000000) only [go_sem]
  refine walkL_loopT 162 (fun (k : Nat) => [(72, .d (.i k))]) (fun k => [(57, some (.box (byRow kn k)))]) (fun k => bySt n p to arr k) (fun k => k ≤ kn) (fun k => kn - k) 0 ?_ (Nat.zero_le _) ?_
  · simp (maxSteps := 4000000) only [go_sem, byRow, bySt]
    refine weak_of [] ?_ ?_ ?_ ?_
    · simp [lessT, lessT_refl, AV.less]
    · simp [lessM, lessB, lessT, lessT_refl, AV.less, List.all_replicate]
    · first | rfl | simp [liveB, AV.refs, AV.refs.AV.refss, List.all_replicate]
    · first | rfl | simp [liveM, liveB, AV.refs, AV.refs.AV.refss, List.all_replicate]
  · intro k hk
    have hrl := byRow_len kn k hk
    have hr0 := byRow_get kn k k (Nat.le_refl _)
    simp (maxSteps := 4000000) only [go_sem]
    repeat (first | refine walkL_seq ?_ | refine walkL_skip ?_ | refine walkL_block ?_ | (refine walkL_region fun K hK => ?_; simp (maxSteps := 4000000) only [go_sem]; refine hK _ ?_; clear hK K) | refine walkL_nil ?_ | refine walkL_ret ?_ | refine walkL_exit ?_ | refine blockA_here ?_ | refine blockA_other rfl ?_ | refine blockA_ret ?_ | refine blockA_normal ?_ | refine thenA_ret ?_ | refine thenA_exit ?_ | refine thenA_normal ?_)
    refine walkL_cond rfl (fun hb => ?_) (fun hb => ?_)
    · have hlt : k < kn := by simpa using hb
      have hw : IntKind.i64.wrap ((k : Int) + 1) = ((k + 1 : Nat) : Int) := by rw [wr_small (by omega)]; simp
      have hl1 : k + 1 < kn + 1 := by omega
      have hl2 : k + 1 + 1 ≤ kn + 1 := by omega
      repeat (first | refine walkL_seq ?_ | refine walkL_skip ?_ | refine walkL_block ?_ | (refine walkL_region fun K hK => ?_; simp (maxSteps := 4000000) only [go_sem]; refine hK _ ?_; clear hK K) | refine walkL_nil ?_ | refine walkL_ret ?_ | refine walkL_exit ?_ | refine blockA_here ?_ | refine blockA_other rfl ?_ | refine blockA_ret ?_ | refine blockA_normal ?_ | refine thenA_ret ?_ | refine thenA_exit ?_ | refine thenA_normal ?_)
      have hl3 : k + 1 ≤ kn := hlt
      refine walkL_drawn (by kernel_rfl) (by kernel_rfl) fun K hK => ?_
      simp (maxSteps := 4000000) only [go_sem, hrl, hl1, hl2, hl3, hw]
      refine ⟨_, .fnS (hdst := rfl) (hf := h47) (hd := rfl) (hr := .inl (rowsFlat_int _)) (hfr := rfl), ?_⟩
      simp (maxSteps := 4000000) only [go_sem, hrl, hl1, hl2, hl3, hw]
      refine ⟨by kernel_rfl, hK _ ?_⟩
      clear hK K
      refine walkL_seq ?_
      have hmv := byRow_move kn k hlt
      have htm : ∀ h, (bySt n p to arr k).map (Option.map (Blk.mapN h)) = bySt n p to arr k := fun h => bySt_map n p to arr k h
      refine walkL_moveL 82 (k + 1 + 162) ?_ _ rfl ?_
      · simp (maxSteps := 4000000) only [go_sem, bySt_len]
      simp (maxSteps := 4000000) only [go_sem, hmv, htm]
      have hr1 := byRow_get kn (k + 1) (k + 1) (Nat.le_refl _)
      have hr0 := byRow_get kn (k + 1) k (Nat.le_succ _)
      have hrl := byRow_len kn (k + 1) hlt
      have hlk : k < kn + 1 := by omega
      have htl : ∀ x y, (bySt n p to arr k ++ [x]).set (k + 1) y = bySt n p to arr k ++ [y] := fun x y => by
        rw [List.set_append_right _ _ (by rw [bySt_len]; omega), bySt_len, Nat.sub_self]; rfl
      have htg1 : ∀ x, (bySt n p to arr k ++ [x])[k + 1]? = some x := fun x => by
        rw [List.getElem?_append_right (by rw [bySt_len]; omega), bySt_len, Nat.sub_self]; rfl
      have htg0 : ∀ x, (bySt n p to arr k ++ [x])[k]? = some (some (.arr 3 1 (intRows (byL n p to arr k)))) := fun x => by
        rw [List.getElem?_append_left (by rw [bySt_len]; omega), bySt_get n p to arr k k (Nat.le_refl _)]
      refine walkL_forget [75, 76, 77, 78, 79, 80, 81, 82, 83] ?_ ?_
      · simp (maxSteps := 4000000) only [go_sem]
        refine weak_of [] ?_ ?_ ?_ ?_
        · simp [lessT, lessT_refl, AV.less]
        · simp [lessM, lessB, lessT, lessT_refl, AV.less, live_by, bySt_len, bySt_all, List.all_append, List.length_append, lessM_by, lessM_by0, liveM_by, liveM_by0]
        · first | rfl | simp [liveB, AV.refs, AV.refs.AV.refss, live_by, bySt_len, bySt_all, List.all_append, List.length_append, lessM_by, lessM_by0, liveM_by, liveM_by0]
        · first | rfl | simp [liveM, liveB, AV.refs, AV.refs.AV.refss, live_by, bySt_len, bySt_all, List.all_append, List.length_append, lessM_by, lessM_by0, liveM_by, liveM_by0]
      simp (maxSteps := 4000000) only [go_sem]
      repeat (first | refine walkL_seq ?_ | refine walkL_skip ?_ | refine walkL_block ?_ | (refine walkL_region fun K hK => ?_; simp (maxSteps := 4000000) only [go_sem]; (repeat (first | (refine ⟨_, .lent (hf := f48 n p (-1)) (hd := rfl) (hr := rfl), ?_⟩; simp (maxSteps := 4000000) only [go_sem]) | (refine ⟨_, .given (hf := f48 n p (-1)) (hd := rfl) (ha := rfl), ?_⟩; simp (maxSteps := 4000000) only [go_sem]))); refine hK _ ?_; clear hK K) | refine walkL_nil ?_ | refine walkL_ret ?_ | refine walkL_exit ?_ | refine blockA_here ?_ | refine blockA_other rfl ?_ | refine blockA_ret ?_ | refine blockA_normal ?_ | refine thenA_ret ?_ | refine thenA_exit ?_ | refine thenA_normal ?_)
      obtain ⟨cur, hcur⟩ : ∃ cur, cur = byL n p to arr k := ⟨_, rfl⟩
      have hcl : cur.length = m := by rw [hcur, byL_len]; exact htn
      rw [← hcur] at htg0
      refine walkL_rangeS (g := .tmp 85) rfl (iter87 n p (-1) (by have := ho.net.paths; omega)) (by intro row hr; obtain ⟨w, _, rfl⟩ := List.mem_map.1 hr; rfl) (fun _ => []) (fun (a : List Int) => [(k + 1 + 162, some (.arr 3 1 (intRows a)))])
        (fun i a => a = ((waysL n p (-1)).take i).foldl (relaxBy p cur) (List.replicate m (-1))) (fun _ _ => False) (List.replicate m (-1)) ?_ rfl ?_ ?_ (fun _ _ h => h.elim)
      · simp (maxSteps := 4000000) only [go_sem, htl]
        refine weak_of [] ?_ ?_ ?_ ?_
        · simp [lessT, lessT_refl, AV.less]
        · simp [lessM, lessB, lessT, lessT_refl, AV.less, live_by, bySt_len, bySt_all, List.all_append, List.length_append, lessM_by, lessM_by0, liveM_by, liveM_by0]
        · first | rfl | simp [liveB, AV.refs, AV.refs.AV.refss, live_by, bySt_len, bySt_all, List.all_append, List.length_append, lessM_by, lessM_by0, liveM_by, liveM_by0]
        · first | rfl | simp [liveM, liveB, AV.refs, AV.refs.AV.refss, live_by, bySt_len, bySt_all, List.all_append, List.length_append, lessM_by, lessM_by0, liveM_by, liveM_by0]
      · intro i a row hi ha l2 m2
        simp only [List.getElem?_map, Option.map_eq_some_iff] at hi
        obtain ⟨w, hw1, rfl⟩ := hi
        have hx := waysL_get (List.mem_of_getElem? hw1)
        have hmem := List.mem_of_getElem? hx
        have hn := ho.net.ok
        have hlen : a.length = m := by rw [ha, foldBy_len]; simp
        have hf := hn.frm w.2 hmem
        have ht := hn.to w.2 hmem
        have g1 : (intRows a)[w.2.frm.toNat]? = some [.i (getI a w.2.frm)] := intRows_get hf.1 (by omega)
        have g2 : (intRows cur)[w.2.to.toNat]? = some [.i (getI cur w.2.to)] := intRows_get ht.1 (by omega)
        have g3 : w.2.frm.toNat < (intRows a).length := by rw [intRows_len]; omega
        have g4 : w.2.to.toNat < (intRows cur).length := by rw [intRows_len]; omega
        have h49 := f49 n p w.1 w.2 (getI cur w.2.to) hx (by have := hn.opens w.2 hmem; omega)
        have hnext : ((waysL n p (-1)).take (i + 1)).foldl (relaxBy p cur) (List.replicate m (-1)) = relaxBy p cur a w := by rw [ha]; exact foldl_take_succ _ _ _ _ _ hw1
        simp (maxSteps := 4000000) only [go_sem, wayRow, Path.row, htl]
        repeat (first | refine walkL_seq ?_ | refine walkL_skip ?_ | refine walkL_block ?_ | (refine walkL_region fun K hK => ?_; simp (maxSteps := 4000000) only [go_sem]; refine hK _ ?_; clear hK K) | refine walkL_nil ?_ | refine walkL_ret ?_ | refine walkL_exit ?_ | refine blockA_here ?_ | refine blockA_other rfl ?_ | refine blockA_ret ?_ | refine blockA_normal ?_ | refine thenA_ret ?_ | refine thenA_exit ?_ | refine thenA_normal ?_)
        refine walkL_drawn (by kernel_rfl) (by kernel_rfl) fun K hK => ?_
        simp (maxSteps := 4000000) only [go_sem, g1, g2, g3, g4, ht.1, hf.1, hr0, hr1, htg0, htg1, hl1, hlk, hw]
        refine ⟨_, .fn (hf := h49) (hd := rfl) (hr := .inl rfl), ?_⟩
        simp (maxSteps := 4000000) only [go_sem, g1, g2, g3, g4, ht.1, hf.1, hr0, hr1, htg0, htg1, hl1, hlk, hw]
        refine ⟨by kernel_rfl, hK _ ?_⟩
        clear hK K
        repeat (first | refine walkL_seq ?_ | refine walkL_skip ?_ | refine walkL_block ?_ | (refine walkL_region fun K hK => ?_; simp (maxSteps := 4000000) only [go_sem]; refine hK _ ?_; clear hK K) | refine walkL_nil ?_ | refine walkL_ret ?_ | refine walkL_exit ?_ | refine blockA_here ?_ | refine blockA_other rfl ?_ | refine blockA_ret ?_ | refine blockA_normal ?_ | refine thenA_ret ?_ | refine thenA_exit ?_ | refine thenA_normal ?_)
        refine ⟨rfl, relaxBy p cur a w, ?_, hnext.symm⟩
        rw [relaxBy, ← intRows_set]
        simp (maxSteps := 4000000) only [go_sem, htl]
        refine weak_of [] ?_ ?_ ?_ ?_
        · simp [lessT, lessT_refl, AV.less]
        · simp [lessM, lessB, lessT, lessT_refl, AV.less, live_by, bySt_len, bySt_all, List.all_append, List.length_append, lessM_by, lessM_by0, liveM_by, liveM_by0]
        · first | rfl | simp [liveB, AV.refs, AV.refs.AV.refss, live_by, bySt_len, bySt_all, List.all_append, List.length_append, lessM_by, lessM_by0, liveM_by, liveM_by0]
        · first | rfl | simp [liveM, liveB, AV.refs, AV.refs.AV.refss, live_by, bySt_len, bySt_all, List.all_append, List.length_append, lessM_by, lessM_by0, liveM_by, liveM_by0]
      · intro a ha
        rw [List.length_map, List.take_length] at ha
        have ha : a = byNext n p cur := by rw [ha, byNext, htn]
        simp (maxSteps := 4000000) only [go_sem, htl]
        repeat (first | refine walkL_seq ?_ | refine walkL_skip ?_ | refine walkL_block ?_ | (refine walkL_region fun K hK => ?_; simp (maxSteps := 4000000) only [go_sem, hw]; refine hK _ ?_; clear hK K) | refine walkL_nil ?_ | refine walkL_ret ?_ | refine walkL_exit ?_ | refine blockA_here ?_ | refine blockA_other rfl ?_ | refine blockA_ret ?_ | refine blockA_normal ?_ | refine thenA_ret ?_ | refine thenA_exit ?_ | refine thenA_normal ?_)
        refine ⟨rfl, k + 1, ?_, hlt, by omega⟩
        rw [bySt_succ, ← hcur, ← ha]
        refine weak_of [] ?_ ?_ ?_ ?_
        · simp [lessT, lessT_refl, AV.less]
        · simp [lessM, lessB, lessT, lessT_refl, AV.less, live_by, bySt_len, bySt_all, List.all_append, List.length_append, lessM_by, lessM_by0, liveM_by, liveM_by0]
        · first | rfl | simp [liveB, AV.refs, AV.refs.AV.refss, live_by, bySt_len, bySt_all, List.all_append, List.length_append, lessM_by, lessM_by0, liveM_by, liveM_by0]
        · first | rfl | simp [liveM, liveB, AV.refs, AV.refs.AV.refss, live_by, bySt_len, bySt_all, List.all_append, List.length_append, lessM_by, lessM_by0, liveM_by, liveM_by0]
    · have he : kn = k := by (have : ¬ k < kn := by simpa using hb); omega
      subst he
      have hwk : IntKind.i64.wrap ((kn : Int) - 1) = (kn : Int) - 1 := wr_small (by omega)
      have hrl := byRow_len kn kn (Nat.le_refl _)
      have hrx := byRow_get kn kn
      have htx := bySt_get n p to arr kn
      repeat (first | refine walkL_seq ?_ | refine walkL_skip ?_ | refine walkL_block ?_ | (refine walkL_region fun K hK => ?_; simp (maxSteps := 4000000) only [go_sem, hwk]; refine hK _ ?_; clear hK K) | refine walkL_nil ?_ | refine walkL_ret ?_ | refine walkL_exit ?_ | refine blockA_here ?_ | refine blockA_other rfl ?_ | refine blockA_ret ?_ | refine blockA_normal ?_ | refine thenA_ret ?_ | refine thenA_exit ?_ | refine thenA_normal ?_)
      refine walkL_loopS (fun (a : Int × RSt) => [(21, .box 21 0)]) (fun a => [(10, some (.box [.own 155])), (155, some (.arr 3 1 (intRows a.2.1))), (19, some (.box [.d (.i a.2.2.1)])), (20, some (.box [.d (.i a.2.2.2)])), (21, some (.box [.d (.i a.1)]))])
        (fun a => -1 ≤ a.1 ∧ a.1 < kn ∧ routeD n p to arr kn ([], frm, start) = routeD n p to arr (a.1 + 1).toNat a.2 ∧ a.2.1.length + (a.1 + 1).toNat ≤ kn) (fun a => (a.1 + 1).toNat) ((kn : Int) - 1, [], frm, start) ?_
        ⟨by dsimp only; omega, by dsimp only; omega, by dsimp only; congr 1; omega, by dsimp only; simp only [List.length_nil]; omega⟩ ?_
      · simp (maxSteps := 4000000) only [go_sem]
        refine weak_of [155] ?_ ?_ ?_ ?_
        · simp [lessT, lessT_refl, AV.less]
        · simp [lessM, lessB, lessT, lessT_refl, AV.less, lessM_by155, live_by, bySt_len, bySt_all, List.all_append, List.length_append, lessM_by, lessM_by0, liveM_by, liveM_by0, intRows]
        · first | rfl | simp [liveB, AV.refs, AV.refs.AV.refss, lessM_by155, live_by, bySt_len, bySt_all, List.all_append, List.length_append, lessM_by, lessM_by0, liveM_by, liveM_by0, intRows]
        · first | rfl | simp [liveM, liveB, AV.refs, AV.refs.AV.refss, lessM_by155, live_by, bySt_len, bySt_all, List.all_append, List.length_append, lessM_by, lessM_by0, liveM_by, liveM_by0, intRows]
      · rintro ⟨t, s⟩ ⟨ht1, ht2, hrd, hsl⟩
        dsimp only at ht1 ht2 hrd hsl
        simp (maxSteps := 4000000) only [go_sem]
        repeat (first | refine walkL_seq ?_ | refine walkL_skip ?_ | refine walkL_block ?_ | (refine walkL_region fun K hK => ?_; simp (maxSteps := 4000000) only [go_sem]; refine hK _ ?_; clear hK K) | refine walkL_nil ?_ | refine walkL_ret ?_ | refine walkL_exit ?_ | refine blockA_here ?_ | refine blockA_other rfl ?_ | refine blockA_ret ?_ | refine blockA_normal ?_ | refine thenA_ret ?_ | refine thenA_exit ?_ | refine thenA_normal ?_)
        refine walkL_cond rfl (fun hb => ?_) (fun hb => ?_)
        · have hb : t ≥ 0 := by simpa using hb
          obtain ⟨j, rfl⟩ : ∃ j : Nat, t = j := ⟨t.toNat, by omega⟩
          have hjk : j ≤ kn := by omega
          have hjk1 : j < kn + 1 := by omega
          have hwj : IntKind.i64.wrap ((j : Int) - 1) = (j : Int) - 1 := wr_small (by omega)
          rw [show ((j : Int) + 1).toNat = j + 1 by omega, routeD] at hrd
          rw [show ((j : Int) + 1).toNat = j + 1 by omega] at hsl
          obtain ⟨cur, hcur⟩ : ∃ cur, cur = byL n p to arr j := ⟨_, rfl⟩
          have hcl : cur.length = m := by rw [hcur, byL_len]; exact htn
          have htj := htx j hjk
          have hrj := hrx j hjk
          rw [← hcur] at hrd htj
          repeat (first | refine walkL_seq ?_ | refine walkL_skip ?_ | refine walkL_nil ?_ | refine walkL_ret ?_ | refine walkL_exit ?_ | refine blockA_here ?_ | refine blockA_other rfl ?_ | refine blockA_ret ?_ | refine blockA_normal ?_ | refine thenA_ret ?_ | refine thenA_exit ?_ | refine thenA_normal ?_)
          refine walkL_meetS [] [(155, some (.arr 3 1 (intRows (stepR n p cur s).1))), (19, some (.box [.d (.i (stepR n p cur s).2.1)])), (20, some (.box [.d (.i (stepR n p cur s).2.2)]))] ?_ ?_
          · refine walkL_block ?_
            repeat (first | refine walkL_seq ?_ | refine walkL_skip ?_ | refine walkL_block ?_ | (refine walkL_region fun K hK => ?_; simp (maxSteps := 4000000) only [go_sem]; (repeat (first | (refine ⟨_, .lent (hf := f48 n p (-1)) (hd := rfl) (hr := rfl), ?_⟩; simp (maxSteps := 4000000) only [go_sem]) | (refine ⟨_, .given (hf := f48 n p (-1)) (hd := rfl) (ha := rfl), ?_⟩; simp (maxSteps := 4000000) only [go_sem]))); refine hK _ ?_; clear hK K) | refine walkL_nil ?_ | refine walkL_ret ?_ | refine walkL_exit ?_ | refine blockA_here ?_ | refine blockA_other rfl ?_ | refine blockA_ret ?_ | refine blockA_normal ?_ | refine thenA_ret ?_ | refine thenA_exit ?_ | refine thenA_normal ?_)
            refine walkL_rangeS (g := .tmp 127) rfl (iter87 n p (-1) (by have := ho.net.paths; omega)) (by intro row hr; obtain ⟨w, _, rfl⟩ := List.mem_map.1 hr; rfl) (fun _ => []) (fun (a : RSt) => [(155, some (.arr 3 1 (intRows a.1))), (19, some (.box [.d (.i a.2.1)])), (20, some (.box [.d (.i a.2.2)]))])
              (fun i a => a = s ∧ ((waysL n p (-1)).take i).find? (fitsR p cur s) = none) (fun e a => e = .exit 6 ∧ a = stepR n p cur s) s ?_ ⟨rfl, rfl⟩ ?_ ?_ ?_
            · simp (maxSteps := 4000000) only [go_sem]
              refine weak_of [] ?_ ?_ ?_ ?_
              · simp [lessT, lessT_refl, AV.less]
              · simp [lessM, lessB, lessT, lessT_refl, AV.less, live_by, bySt_len, bySt_all, List.all_append, List.length_append, lessM_by, lessM_by0, liveM_by, liveM_by0]
              · first | rfl | simp [liveB, AV.refs, AV.refs.AV.refss, live_by, bySt_len, bySt_all, List.all_append, List.length_append, lessM_by, lessM_by0, liveM_by, liveM_by0]
              · first | rfl | simp [liveM, liveB, AV.refs, AV.refs.AV.refss, live_by, bySt_len, bySt_all, List.all_append, List.length_append, lessM_by, lessM_by0, liveM_by, liveM_by0]
            · rintro i a row hi ⟨rfl, hnone⟩ l2 m2
              simp only [List.getElem?_map, Option.map_eq_some_iff] at hi
              obtain ⟨w, hw1, rfl⟩ := hi
              have hx := waysL_get (List.mem_of_getElem? hw1)
              have hmem := List.mem_of_getElem? hx
              have hn := ho.net.ok
              have ht := hn.to w.2 hmem
              have g2 : (intRows cur)[w.2.to.toNat]? = some [.i (getI cur w.2.to)] := intRows_get ht.1 (by omega)
              have g4 : w.2.to.toNat < (intRows cur).length := by rw [intRows_len]; omega
              have h51 := f51 n p w.1 w.2 hx
              have h50 := f50 n p w.1 w.2 a.2.2 (spanW w.2 p).hi hx (by have := hn.opens w.2 hmem; omega)
              have hfit : a.1.length + 1 ≤ 549755813888 := by omega
              simp (maxSteps := 4000000) only [go_sem, wayRow, Path.row]
              repeat (first | refine walkL_seq ?_ | refine walkL_skip ?_ | refine walkL_block ?_ | (refine walkL_region fun K hK => ?_; simp (maxSteps := 4000000) only [go_sem]; refine hK _ ?_; clear hK K) | refine walkL_nil ?_ | refine walkL_ret ?_ | refine walkL_exit ?_ | refine blockA_here ?_ | refine blockA_other rfl ?_ | refine blockA_ret ?_ | refine blockA_normal ?_ | refine thenA_ret ?_ | refine thenA_exit ?_ | refine thenA_normal ?_)
              refine walkL_cond rfl (fun hc => ?_) (fun hc => ?_)
              · have hq : fitsR p cur a w = false := by
                  have : ¬ w.2.frm = a.2.1 := by simpa using hc
                  simp [fitsR, this]
                repeat (first | refine walkL_seq ?_ | refine walkL_skip ?_ | refine walkL_block ?_ | (refine walkL_region fun K hK => ?_; simp (maxSteps := 4000000) only [go_sem]; refine hK _ ?_; clear hK K) | refine walkL_nil ?_ | refine walkL_ret ?_ | refine walkL_exit ?_ | refine blockA_here ?_ | refine blockA_other rfl ?_ | refine blockA_ret ?_ | refine blockA_normal ?_ | refine thenA_ret ?_ | refine thenA_exit ?_ | refine thenA_normal ?_)
                refine ⟨rfl, a, ?_, rfl, find_take_succ hw1 hnone hq⟩
                simp (maxSteps := 4000000) only [go_sem]
                refine weak_of [] ?_ ?_ ?_ ?_
                · simp [lessT, lessT_refl, AV.less]
                · simp [lessM, lessB, lessT, lessT_refl, AV.less, live_by, bySt_len, bySt_all, List.all_append, List.length_append, lessM_by, lessM_by0, liveM_by, liveM_by0]
                · first | rfl | simp [liveB, AV.refs, AV.refs.AV.refss, live_by, bySt_len, bySt_all, List.all_append, List.length_append, lessM_by, lessM_by0, liveM_by, liveM_by0]
                · first | rfl | simp [liveM, liveB, AV.refs, AV.refs.AV.refss, live_by, bySt_len, bySt_all, List.all_append, List.length_append, lessM_by, lessM_by0, liveM_by, liveM_by0]
              · have hfe : w.2.frm = a.2.1 := by simpa using hc
                repeat (first | refine walkL_seq ?_ | refine walkL_skip ?_ | refine walkL_block ?_ | (refine walkL_region fun K hK => ?_; simp (maxSteps := 4000000) only [go_sem]; refine hK _ ?_; clear hK K) | refine walkL_nil ?_ | refine walkL_ret ?_ | refine walkL_exit ?_ | refine blockA_here ?_ | refine blockA_other rfl ?_ | refine blockA_ret ?_ | refine blockA_normal ?_ | refine thenA_ret ?_ | refine thenA_exit ?_ | refine thenA_normal ?_)
                refine walkL_drawn (by kernel_rfl) (by kernel_rfl) fun K hK => ?_
                simp (maxSteps := 4000000) only [go_sem]
                refine ⟨_, .fn (hf := h51) (hd := rfl) (hr := .inl rfl), ?_⟩
                simp (maxSteps := 4000000) only [go_sem, Span.row]
                refine ⟨_, .fn (hf := h50) (hd := rfl) (hr := .inl rfl), ?_⟩
                simp (maxSteps := 4000000) only [go_sem]
                refine ⟨by kernel_rfl, hK _ ?_⟩
                clear hK K
                repeat (first | refine walkL_seq ?_ | refine walkL_skip ?_ | refine walkL_block ?_ | (refine walkL_region fun K hK => ?_; simp (maxSteps := 4000000) only [go_sem]; refine hK _ ?_; clear hK K) | refine walkL_nil ?_ | refine walkL_ret ?_ | refine walkL_exit ?_ | refine blockA_here ?_ | refine blockA_other rfl ?_ | refine blockA_ret ?_ | refine blockA_normal ?_ | refine thenA_ret ?_ | refine thenA_exit ?_ | refine thenA_normal ?_)
                refine walkL_drawn (by kernel_rfl) (by kernel_rfl) fun K hK => ?_
                simp (maxSteps := 4000000) only [go_sem, g2, g4, ht.1, htj, hrj, hjk1]
                refine ⟨by kernel_rfl, hK _ ?_⟩
                clear hK K
                refine walkL_cond rfl (fun hc => ?_) (fun hc => ?_)
                · have hq : fitsR p cur a w = true := by
                    have : arriveF w.2.opens a.2.2 (spanW w.2 p).hi ≤ getI cur w.2.to := by simpa using hc
                    simp [fitsR, this, hfe]
                  have hst : stepR n p cur a = (a.1 ++ [(w.1 : Int)], w.2.to, arriveF w.2.opens a.2.2 (spanW w.2 p).hi) := by rw [stepR, find_at hw1 hnone hq]
                  have hrs := fun f => byRow_sub kn kn 155 f (by omega)
                  have hss := fun f => bySt_sub n p to arr kn 155 f
                  repeat (first | refine walkL_seq ?_ | refine walkL_skip ?_ | refine walkL_block ?_ | (refine walkL_region fun K hK => ?_; simp (maxSteps := 4000000) only [go_sem, intRows_len, hfit, hrs, hss]; refine hK _ ?_; clear hK K) | refine walkL_nil ?_ | refine walkL_ret ?_ | refine walkL_exit ?_ | refine blockA_here ?_ | refine blockA_other rfl ?_ | refine blockA_ret ?_ | refine blockA_normal ?_ | refine thenA_ret ?_ | refine thenA_exit ?_ | refine thenA_normal ?_)
                  refine ⟨rfl, rfl, stepR n p cur a, ?_, rfl, rfl⟩
                  rw [hst, ← intRows_append]
                  simp (maxSteps := 4000000) only [go_sem]
                  refine weak_of [] ?_ ?_ ?_ ?_
                  · simp [lessT, lessT_refl, AV.less]
                  · simp [lessM, lessB, lessT, lessT_refl, AV.less, live_by, bySt_len, bySt_all, List.all_append, List.length_append, lessM_by, lessM_by0, liveM_by, liveM_by0, intRows]
                  · first | rfl | simp [liveB, AV.refs, AV.refs.AV.refss, live_by, bySt_len, bySt_all, List.all_append, List.length_append, lessM_by, lessM_by0, liveM_by, liveM_by0, intRows]
                  · first | rfl | simp [liveM, liveB, AV.refs, AV.refs.AV.refss, live_by, bySt_len, bySt_all, List.all_append, List.length_append, lessM_by, lessM_by0, liveM_by, liveM_by0, intRows]
                · have hq : fitsR p cur a w = false := by
                    have : ¬ arriveF w.2.opens a.2.2 (spanW w.2 p).hi ≤ getI cur w.2.to := by simpa using hc
                    simp [fitsR, this]
                  repeat (first | refine walkL_seq ?_ | refine walkL_skip ?_ | refine walkL_block ?_ | (refine walkL_region fun K hK => ?_; simp (maxSteps := 4000000) only [go_sem]; refine hK _ ?_; clear hK K) | refine walkL_nil ?_ | refine walkL_ret ?_ | refine walkL_exit ?_ | refine blockA_here ?_ | refine blockA_other rfl ?_ | refine blockA_ret ?_ | refine blockA_normal ?_ | refine thenA_ret ?_ | refine thenA_exit ?_ | refine thenA_normal ?_)
                  refine ⟨rfl, a, ?_, rfl, find_take_succ hw1 hnone hq⟩
                  simp (maxSteps := 4000000) only [go_sem]
                  refine weak_of [] ?_ ?_ ?_ ?_
                  · simp [lessT, lessT_refl, AV.less]
                  · simp [lessM, lessB, lessT, lessT_refl, AV.less, live_by, bySt_len, bySt_all, List.all_append, List.length_append, lessM_by, lessM_by0, liveM_by, liveM_by0]
                  · first | rfl | simp [liveB, AV.refs, AV.refs.AV.refss, live_by, bySt_len, bySt_all, List.all_append, List.length_append, lessM_by, lessM_by0, liveM_by, liveM_by0]
                  · first | rfl | simp [liveM, liveB, AV.refs, AV.refs.AV.refss, live_by, bySt_len, bySt_all, List.all_append, List.length_append, lessM_by, lessM_by0, liveM_by, liveM_by0]
            · rintro a ⟨rfl, hnone⟩
              rw [List.length_map, List.take_length] at hnone
              have hst : stepR n p cur a = a := by rw [stepR, hnone]
              rw [hst]
              simp (maxSteps := 4000000) only [go_sem]
              repeat (first | refine walkL_seq ?_ | refine walkL_skip ?_ | refine walkL_block ?_ | (refine walkL_region fun K hK => ?_; simp (maxSteps := 4000000) only [go_sem]; refine hK _ ?_; clear hK K) | refine walkL_nil ?_ | refine walkL_ret ?_ | refine walkL_exit ?_ | refine blockA_here ?_ | refine blockA_other rfl ?_ | refine blockA_ret ?_ | refine blockA_normal ?_ | refine thenA_ret ?_ | refine thenA_exit ?_ | refine thenA_normal ?_)
              refine ⟨rfl, ?_⟩
              refine weak_of [] ?_ ?_ ?_ ?_
              · simp [lessT, lessT_refl, AV.less]
              · simp [lessM, lessB, lessT, lessT_refl, AV.less, live_by, bySt_len, bySt_all, List.all_append, List.length_append, lessM_by, lessM_by0, liveM_by, liveM_by0]
              · first | rfl | simp [liveB, AV.refs, AV.refs.AV.refss, live_by, bySt_len, bySt_all, List.all_append, List.length_append, lessM_by, lessM_by0, liveM_by, liveM_by0]
              · first | rfl | simp [liveM, liveB, AV.refs, AV.refs.AV.refss, live_by, bySt_len, bySt_all, List.all_append, List.length_append, lessM_by, lessM_by0, liveM_by, liveM_by0]
            · rintro e a ⟨rfl, rfl⟩ _
              simp (maxSteps := 4000000) only [go_sem]
              repeat (first | refine walkL_seq ?_ | refine walkL_skip ?_ | refine walkL_block ?_ | (refine walkL_region fun K hK => ?_; simp (maxSteps := 4000000) only [go_sem]; refine hK _ ?_; clear hK K) | refine walkL_nil ?_ | refine walkL_ret ?_ | refine walkL_exit ?_ | refine blockA_here ?_ | refine blockA_other rfl ?_ | refine blockA_ret ?_ | refine blockA_normal ?_ | refine thenA_ret ?_ | refine thenA_exit ?_ | refine thenA_normal ?_)
              refine ⟨rfl, ?_⟩
              refine weak_of [] ?_ ?_ ?_ ?_
              · simp [lessT, lessT_refl, AV.less]
              · simp [lessM, lessB, lessT, lessT_refl, AV.less, live_by, bySt_len, bySt_all, List.all_append, List.length_append, lessM_by, lessM_by0, liveM_by, liveM_by0]
              · first | rfl | simp [liveB, AV.refs, AV.refs.AV.refss, live_by, bySt_len, bySt_all, List.all_append, List.length_append, lessM_by, lessM_by0, liveM_by, liveM_by0]
              · first | rfl | simp [liveM, liveB, AV.refs, AV.refs.AV.refss, live_by, bySt_len, bySt_all, List.all_append, List.length_append, lessM_by, lessM_by0, liveM_by, liveM_by0]
          · have hlen1 : (stepR n p cur s).1.length ≤ s.1.length + 1 := by
              unfold stepR; split <;> simp
            simp (maxSteps := 4000000) only [go_sem]
            repeat (first | refine walkL_seq ?_ | refine walkL_skip ?_ | refine walkL_block ?_ | (refine walkL_region fun K hK => ?_; simp (maxSteps := 4000000) only [go_sem]; refine hK _ ?_; clear hK K) | refine walkL_nil ?_ | refine walkL_ret ?_ | refine walkL_exit ?_ | refine blockA_here ?_ | refine blockA_other rfl ?_ | refine blockA_ret ?_ | refine blockA_normal ?_ | refine thenA_ret ?_ | refine thenA_exit ?_ | refine thenA_normal ?_)
            refine walkL_forget [21] ?_ ?_
            · simp (maxSteps := 4000000) only [go_sem]
              refine weak_of [] ?_ ?_ ?_ ?_
              · simp [lessT, lessT_refl, AV.less]
              · simp [lessM, lessB, lessT, lessT_refl, AV.less, live_by, bySt_len, bySt_all, List.all_append, List.length_append, lessM_by, lessM_by0, liveM_by, liveM_by0]
              · first | rfl | simp [liveB, AV.refs, AV.refs.AV.refss, live_by, bySt_len, bySt_all, List.all_append, List.length_append, lessM_by, lessM_by0, liveM_by, liveM_by0]
              · first | rfl | simp [liveM, liveB, AV.refs, AV.refs.AV.refss, live_by, bySt_len, bySt_all, List.all_append, List.length_append, lessM_by, lessM_by0, liveM_by, liveM_by0]
            simp (maxSteps := 4000000) only [go_sem]
            repeat (first | refine walkL_seq ?_ | refine walkL_skip ?_ | refine walkL_block ?_ | (refine walkL_region fun K hK => ?_; simp (maxSteps := 4000000) only [go_sem, hwj]; refine hK _ ?_; clear hK K) | refine walkL_nil ?_ | refine walkL_ret ?_ | refine walkL_exit ?_ | refine blockA_here ?_ | refine blockA_other rfl ?_ | refine blockA_ret ?_ | refine blockA_normal ?_ | refine thenA_ret ?_ | refine thenA_exit ?_ | refine thenA_normal ?_)
            refine ⟨rfl, ((j : Int) - 1, stepR n p cur s), ?_, ⟨by dsimp only; omega, by dsimp only; omega, by dsimp only; rw [hrd]; congr 1; omega, by dsimp only; omega⟩, by dsimp only; omega⟩
            refine weak_of [] ?_ ?_ ?_ ?_
            · simp [lessT, lessT_refl, AV.less]
            · simp [lessM, lessB, lessT, lessT_refl, AV.less, live_by, bySt_len, bySt_all, List.all_append, List.length_append, lessM_by, lessM_by0, liveM_by, liveM_by0]
            · first | rfl | simp [liveB, AV.refs, AV.refs.AV.refss, live_by, bySt_len, bySt_all, List.all_append, List.length_append, lessM_by, lessM_by0, liveM_by, liveM_by0]
            · first | rfl | simp [liveM, liveB, AV.refs, AV.refs.AV.refss, live_by, bySt_len, bySt_all, List.all_append, List.length_append, lessM_by, lessM_by0, liveM_by, liveM_by0]
        · have he : t = -1 := by (have : ¬ t ≥ 0 := by simpa using hb); omega
          subst he
          have hrd' : routeD n p to arr kn ([], frm, start) = s := hrd
          repeat (first | refine walkL_seq ?_ | refine walkL_skip ?_ | refine walkL_block ?_ | (refine walkL_region fun K hK => ?_; simp (maxSteps := 4000000) only [go_sem]; refine hK _ ?_; clear hK K) | refine walkL_nil ?_ | refine walkL_ret ?_ | refine walkL_exit ?_ | refine blockA_here ?_ | refine blockA_other rfl ?_ | refine blockA_ret ?_ | refine blockA_normal ?_ | refine thenA_ret ?_ | refine thenA_exit ?_ | refine thenA_normal ?_)
          refine walkL_drawn (by kernel_rfl) (by kernel_rfl) fun K hK => ?_
          simp (maxSteps := 4000000) only [go_sem]
          refine ⟨by kernel_rfl, hK _ ?_⟩
          clear hK K
          repeat (first | refine walkL_seq ?_ | refine walkL_skip ?_ | refine walkL_block ?_ | (refine walkL_region fun K hK => ?_; simp (maxSteps := 4000000) only [go_sem]; refine hK _ ?_; clear hK K) | refine walkL_nil ?_ | refine walkL_ret ?_ | refine walkL_exit ?_ | refine blockA_here ?_ | refine blockA_other rfl ?_ | refine blockA_ret ?_ | refine blockA_normal ?_ | refine thenA_ret ?_ | refine thenA_exit ?_ | refine thenA_normal ?_)
          simp (maxSteps := 4000000) only [go_sem, hnv, hKe, Int.toNat_natCast, hrd']
end Go.Ab
namespace Go.Ab
open Go.RowKit Go.Proofs
set_option maxHeartbeats 4000000
set_option maxRecDepth 20000
attribute [local irreducible] WalkL Walk

theorem list_eq_of_take {a b : List Int} (hl : a.length = b.length) (h : a.take a.length = b.take a.length) : a = b := by
  rw [List.take_length] at h
  rw [h, hl, List.take_length]

theorem f17 (a b : List Int) (ha : a.length < 2 ^ 30) : Fn Try.prog 17 [.sl (intRows a), .sl (intRows b)] (.bool (decide (a = b))) := by
  refine fn_walk 26 Try.call17 Try.func17 rfl (by decide) fun J => ?_
  simp (maxSteps := 4000000) only [go_sem, St.start, Try.ntmps17, Try.results17]
  repeat (first | refine walkL_seq ?_ | refine walkL_skip ?_ | refine walkL_block ?_ | (refine walkL_region fun K hK => ?_; simp (maxSteps := 4000000) only [go_sem, intRows_len]; refine hK _ ?_; clear hK K) | refine walkL_nil ?_ | refine walkL_ret ?_ | refine walkL_exit ?_ | refine blockA_here ?_ | refine blockA_other rfl ?_ | refine blockA_ret ?_ | refine blockA_normal ?_ | refine thenA_ret ?_ | refine thenA_exit ?_ | refine thenA_normal ?_)
  by_cases hl : a.length = b.length
  · have hne : ((a.length : Int) != (b.length : Int)) = false := by simp [hl]
    simp (maxSteps := 4000000) only [go_sem, hne]
    refine walkL_false rfl ?_
    repeat (first | refine walkL_seq ?_ | refine walkL_skip ?_ | refine walkL_block ?_ | (refine walkL_region fun K hK => ?_; simp (maxSteps := 4000000) only [go_sem]; refine hK _ ?_; clear hK K) | refine walkL_nil ?_ | refine walkL_ret ?_ | refine walkL_exit ?_ | refine blockA_here ?_ | refine blockA_other rfl ?_ | refine blockA_ret ?_ | refine blockA_normal ?_ | refine thenA_ret ?_ | refine thenA_exit ?_ | refine thenA_normal ?_)
    refine walkL_loopS (fun (i : Nat) => [(5, .d (.i i))]) (fun _ => []) (fun i => i ≤ a.length ∧ a.take i = b.take i) (fun i => a.length - i) 0 ?_ ⟨Nat.zero_le _, by simp⟩ ?_
    · simp (maxSteps := 4000000) only [go_sem]
      refine weak_of [] ?_ ?_ rfl rfl <;> simp [lessT, lessM, lessB, AV.less]
    · intro i ⟨hi, heq⟩
      simp (maxSteps := 4000000) only [go_sem]
      repeat (first | refine walkL_seq ?_ | refine walkL_skip ?_ | refine walkL_block ?_ | (refine walkL_region fun K hK => ?_; simp (maxSteps := 4000000) only [go_sem, intRows_len]; refine hK _ ?_; clear hK K) | refine walkL_nil ?_ | refine walkL_ret ?_ | refine walkL_exit ?_ | refine blockA_here ?_ | refine blockA_other rfl ?_ | refine blockA_ret ?_ | refine blockA_normal ?_ | refine thenA_ret ?_ | refine thenA_exit ?_ | refine thenA_normal ?_)
      refine walkL_cond rfl (fun hb => ?_) (fun hb => ?_)
      · have hlt : i < a.length := by simpa using hb
        have hw : IntKind.i64.wrap ((i : Int) + 1) = ((i + 1 : Nat) : Int) := by rw [wr_small (by omega)]; simp
        obtain ⟨x, hx⟩ : ∃ x, a[i]? = some x := ⟨_, List.getElem?_eq_getElem hlt⟩
        obtain ⟨y, hy⟩ : ∃ y, b[i]? = some y := ⟨_, List.getElem?_eq_getElem (hl ▸ hlt)⟩
        have g1 := intRows_at hx
        have g2 := intRows_at hy
        repeat (first | refine walkL_seq ?_ | refine walkL_skip ?_ | refine walkL_block ?_ | (refine walkL_region fun K hK => ?_; simp (maxSteps := 4000000) only [go_sem]; refine hK _ ?_; clear hK K) | refine walkL_nil ?_ | refine walkL_ret ?_ | refine walkL_exit ?_ | refine blockA_here ?_ | refine blockA_other rfl ?_ | refine blockA_ret ?_ | refine blockA_normal ?_ | refine thenA_ret ?_ | refine thenA_exit ?_ | refine thenA_normal ?_)
        refine walkL_drawn (by kernel_rfl) (by kernel_rfl) fun K hK => ?_
        simp (maxSteps := 4000000) only [go_sem, g1, g2]
        refine ⟨by kernel_rfl, hK _ ?_⟩
        clear hK K
        refine walkL_cond rfl (fun hc => ?_) (fun hc => ?_)
        · have hc : ¬ x = y := by simpa using hc
          have hab : ¬ a = b := by rintro rfl; rw [hx] at hy; cases hy; exact hc rfl
          repeat (first | refine walkL_seq ?_ | refine walkL_skip ?_ | refine walkL_block ?_ | (refine walkL_region fun K hK => ?_; simp (maxSteps := 4000000) only [go_sem]; refine hK _ ?_; clear hK K) | refine walkL_nil ?_ | refine walkL_ret ?_ | refine walkL_exit ?_ | refine blockA_here ?_ | refine blockA_other rfl ?_ | refine blockA_ret ?_ | refine blockA_normal ?_ | refine thenA_ret ?_ | refine thenA_exit ?_ | refine thenA_normal ?_)
          simp (maxSteps := 4000000) only [go_sem, hab]
        · have hc : x = y := by simpa using hc
          repeat (first | refine walkL_seq ?_ | refine walkL_skip ?_ | refine walkL_block ?_ | (refine walkL_region fun K hK => ?_; simp (maxSteps := 4000000) only [go_sem, hw]; refine hK _ ?_; clear hK K) | refine walkL_nil ?_ | refine walkL_ret ?_ | refine walkL_exit ?_ | refine blockA_here ?_ | refine blockA_other rfl ?_ | refine blockA_ret ?_ | refine blockA_normal ?_ | refine thenA_ret ?_ | refine thenA_exit ?_ | refine thenA_normal ?_)
          refine ⟨rfl, i + 1, ?_, ⟨hlt, by rw [List.take_add_one, List.take_add_one, heq, hx, hy, hc]⟩, by omega⟩
          refine weak_of [] ?_ ?_ rfl rfl <;> simp [lessT, lessM, lessB, AV.less]
      · have he : i = a.length := by (have : ¬ i < a.length := by simpa using hb); omega
        subst he
        have hab : a = b := list_eq_of_take hl heq
        repeat (first | refine walkL_seq ?_ | refine walkL_skip ?_ | refine walkL_block ?_ | (refine walkL_region fun K hK => ?_; simp (maxSteps := 4000000) only [go_sem]; refine hK _ ?_; clear hK K) | refine walkL_nil ?_ | refine walkL_ret ?_ | refine walkL_exit ?_ | refine blockA_here ?_ | refine blockA_other rfl ?_ | refine blockA_ret ?_ | refine blockA_normal ?_ | refine thenA_ret ?_ | refine thenA_exit ?_ | refine thenA_normal ?_)
        simp (maxSteps := 4000000) only [go_sem, hab]
  · have hne : ((a.length : Int) != (b.length : Int)) = true := by simp; omega
    have hab : ¬ a = b := by rintro rfl; exact hl rfl
    simp (maxSteps := 4000000) only [go_sem, hne]
    refine walkL_true rfl ?_
    repeat (first | refine walkL_seq ?_ | refine walkL_skip ?_ | refine walkL_block ?_ | (refine walkL_region fun K hK => ?_; simp (maxSteps := 4000000) only [go_sem]; refine hK _ ?_; clear hK K) | refine walkL_nil ?_ | refine walkL_ret ?_ | refine walkL_exit ?_ | refine blockA_here ?_ | refine blockA_other rfl ?_ | refine blockA_ret ?_ | refine blockA_normal ?_ | refine thenA_ret ?_ | refine thenA_exit ?_ | refine thenA_normal ?_)
    simp (maxSteps := 4000000) only [go_sem, hab]

/-- The chapter's example. -/
def exN : Net := ⟨4, [⟨0, 1, 2, ⟨100, 120⟩, ⟨0, 0⟩, [⟨0, 2880⟩]⟩, ⟨1, 2, 3, ⟨60, 90⟩, ⟨4, 10⟩, [⟨0, 2880⟩]⟩, ⟨2, 3, 2, ⟨60, 60⟩, ⟨0, 0⟩, [⟨400, 700⟩]⟩, ⟨0, 3, 2, ⟨300, 400⟩, ⟨0, 0⟩, [⟨0, 2880⟩]⟩, ⟨3, 0, 2, ⟨200, 240⟩, ⟨0, 0⟩, [⟨0, 2880⟩]⟩]⟩
def exP : Party := ⟨3, 0, ⟨100, 100⟩⟩

theorem f40 : Fn Try.prog 40 [] (.tup [.agg exN.cells, .agg exP.cells]) := by
  refine fn_walk 26 Try.call40 Try.func40 rfl (by decide) fun J => ?_
  simp (maxSteps := 4000000) only [go_sem, St.start, Try.ntmps40, Try.results40]
  repeat (first | refine walkL_seq ?_ | refine walkL_skip ?_ | refine walkL_block ?_ | (refine walkL_region fun K hK => ?_; simp (maxSteps := 4000000) only [go_sem]; (repeat (first | (refine ⟨_, .lent (hf := f82 _ _) (hd := rfl) (hr := rfl), ?_⟩; simp (maxSteps := 4000000) only [go_sem]) | (refine ⟨_, .given (hf := f82 _ _) (hd := rfl) (ha := rfl), ?_⟩; simp (maxSteps := 4000000) only [go_sem]))); refine hK _ ?_; clear hK K) | refine walkL_nil ?_ | refine walkL_ret ?_ | refine walkL_exit ?_ | refine blockA_here ?_ | refine blockA_other rfl ?_ | refine blockA_ret ?_ | refine blockA_normal ?_ | refine thenA_ret ?_ | refine thenA_exit ?_ | refine thenA_normal ?_)
  simp (maxSteps := 4000000) only [go_sem, exN, exP, Net.cells, Party.cells, Path.row, Span.row]

theorem ex_small : exN.Small := ⟨by decide, by intro x hx; revert hx x; decide⟩

theorem works_route : routeL exN exP 0 400 3 = ([0, 1, 2], 715, 0) := by kernel_rfl
theorem works_latest : latestL exN exP 0 3 900 = (500, 0) := by kernel_rfl
theorem works_fewest : fewest exN exP 0 400 3 (getI (arrivalsL exN exP spanHi 0 400 (-1)) 3) = ((3 : Nat) : Int) := by kernel_rfl

theorem f13 : Fn Try.prog 13 [] (.bool true) := by
  have h15 := f15 exN exP 0 400 3 ex_small (fun _ _ => ⟨3, works_fewest, by decide⟩)
  have h18 := f18 exN exP 0 3 900 ex_small
  rw [works_route] at h15
  rw [works_latest] at h18
  have h17 := f17 [0, 1, 2] [0, 1, 2] (by decide)
  refine fn_walk 44 Try.call13 Try.func13 rfl (by decide) fun J => ?_
  simp (maxSteps := 4000000) only [go_sem, St.start, Try.ntmps13, Try.results13]
  repeat (first | refine walkL_seq ?_ | refine walkL_skip ?_ | refine walkL_block ?_ | (refine walkL_region fun K hK => ?_; simp (maxSteps := 4000000) only [go_sem, exN, exP, Net.cells, Party.cells]; (repeat (first | (refine ⟨_, .lent (hf := f40) (hd := rfl) (hr := rfl), ?_⟩; simp (maxSteps := 4000000) only [go_sem, exN, exP, Net.cells, Party.cells]) | (refine ⟨_, .lent (hf := h15) (hd := rfl) (hr := rfl), ?_⟩; simp (maxSteps := 4000000) only [go_sem, exN, exP, Net.cells, Party.cells]) | (refine ⟨_, .lent (hf := h18) (hd := rfl) (hr := rfl), ?_⟩; simp (maxSteps := 4000000) only [go_sem, exN, exP, Net.cells, Party.cells]) | (refine ⟨_, .lent (hf := h17) (hd := rfl) (hr := rfl), ?_⟩; simp (maxSteps := 4000000) only [go_sem, exN, exP, Net.cells, Party.cells]) | (refine ⟨_, .given (hf := f40) (hd := rfl) (ha := rfl), ?_⟩; simp (maxSteps := 4000000) only [go_sem, exN, exP, Net.cells, Party.cells]) | (refine ⟨_, .given (hf := h15) (hd := rfl) (ha := rfl), ?_⟩; simp (maxSteps := 4000000) only [go_sem, exN, exP, Net.cells, Party.cells]) | (refine ⟨_, .given (hf := h18) (hd := rfl) (ha := rfl), ?_⟩; simp (maxSteps := 4000000) only [go_sem, exN, exP, Net.cells, Party.cells]) | (refine ⟨_, .given (hf := h17) (hd := rfl) (ha := rfl), ?_⟩; simp (maxSteps := 4000000) only [go_sem, exN, exP, Net.cells, Party.cells]))); refine hK _ ?_; clear hK K) | refine walkL_nil ?_ | refine walkL_ret ?_ | refine walkL_exit ?_ | refine blockA_here ?_ | refine blockA_other rfl ?_ | refine blockA_ret ?_ | refine blockA_normal ?_ | refine thenA_ret ?_ | refine thenA_exit ?_ | refine thenA_normal ?_)
  simp (maxSteps := 4000000) only [go_sem]
end Go.Ab
namespace Go.Ab
open Go.RowKit Go.Proofs
set_option maxHeartbeats 4000000
set_option maxRecDepth 20000
attribute [local irreducible] WalkL Walk

/-- A net that a statement does not look at. -/
def farB (n : Net) : Bool := decide ((n.paths.length : Int) > 26) || (n.paths.any (fun x => decide ((x.opens.length : Int) > 8)) || (!badNet n && (decide (n.places > 6) || decide ((n.paths.length : Int) > 10))))

theorem f12 (n : Net) (hs : n.Small) : Fn Try.prog 12 [.agg n.cells] (.bool (farB n)) := by
  have h27 := f27 n hs
  have hb0 := hs.paths
  refine fn_walk 37 Try.call12 Try.func12 rfl (by decide) fun J => ?_
  simp (maxSteps := 4000000) only [go_sem, St.start, Try.ntmps12, Try.results12, Net.cells]
  repeat (first | refine walkL_seq ?_ | refine walkL_skip ?_ | refine walkL_block ?_ | (refine walkL_region fun K hK => ?_; simp (maxSteps := 4000000) only [go_sem]; refine hK _ ?_; clear hK K) | refine walkL_nil ?_ | refine walkL_ret ?_ | refine walkL_exit ?_ | refine blockA_here ?_ | refine blockA_other rfl ?_ | refine blockA_ret ?_ | refine blockA_normal ?_ | refine thenA_ret ?_ | refine thenA_exit ?_ | refine thenA_normal ?_)
  refine walkL_cond rfl (fun hc => ?_) (fun hc => ?_)
  · repeat (first | refine walkL_seq ?_ | refine walkL_skip ?_ | refine walkL_block ?_ | (refine walkL_region fun K hK => ?_; simp (maxSteps := 4000000) only [go_sem]; refine hK _ ?_; clear hK K) | refine walkL_nil ?_ | refine walkL_ret ?_ | refine walkL_exit ?_ | refine blockA_here ?_ | refine blockA_other rfl ?_ | refine blockA_ret ?_ | refine blockA_normal ?_ | refine thenA_ret ?_ | refine thenA_exit ?_ | refine thenA_normal ?_)
    simp (maxSteps := 4000000) only [go_sem, farB, hc]
  · repeat (first | refine walkL_seq ?_ | refine walkL_skip ?_ | refine walkL_block ?_ | (refine walkL_region fun K hK => ?_; simp (maxSteps := 4000000) only [go_sem]; refine hK _ ?_; clear hK K) | refine walkL_nil ?_ | refine walkL_ret ?_ | refine walkL_exit ?_ | refine blockA_here ?_ | refine blockA_other rfl ?_ | refine blockA_ret ?_ | refine blockA_normal ?_ | refine thenA_ret ?_ | refine thenA_exit ?_ | refine thenA_normal ?_)
    refine walkL_loopS (fun (i : Nat) => [(3, .d (.i i))]) (fun _ => []) (fun i => i ≤ n.paths.length ∧ (n.paths.take i).any (fun x => decide ((x.opens.length : Int) > 8)) = false) (fun i => n.paths.length - i) 0 ?_ ⟨Nat.zero_le _, rfl⟩ ?_
    · simp (maxSteps := 4000000) only [go_sem]
      refine weak_of [] ?_ ?_ rfl rfl <;> simp [lessT, lessM, lessB, AV.less]
    · intro i ⟨hi, hall⟩
      simp (maxSteps := 4000000) only [go_sem]
      repeat (first | refine walkL_seq ?_ | refine walkL_skip ?_ | refine walkL_block ?_ | (refine walkL_region fun K hK => ?_; simp (maxSteps := 4000000) only [go_sem]; refine hK _ ?_; clear hK K) | refine walkL_nil ?_ | refine walkL_ret ?_ | refine walkL_exit ?_ | refine blockA_here ?_ | refine blockA_other rfl ?_ | refine blockA_ret ?_ | refine blockA_normal ?_ | refine thenA_ret ?_ | refine thenA_exit ?_ | refine thenA_normal ?_)
      refine walkL_cond rfl (fun hb => ?_) (fun hb => ?_)
      · have hlt : i < n.paths.length := by simpa using hb
        have hw : IntKind.i64.wrap ((i : Int) + 1) = ((i + 1 : Nat) : Int) := by rw [wr_small (by omega)]; simp
        obtain ⟨x, hx⟩ : ∃ x, n.paths[i]? = some x := ⟨_, List.getElem?_eq_getElem hlt⟩
        repeat (first | refine walkL_seq ?_ | refine walkL_skip ?_ | refine walkL_block ?_ | (refine walkL_region fun K hK => ?_; simp (maxSteps := 4000000) only [go_sem, hx, List.getElem?_map, Path.row]; refine hK _ ?_; clear hK K) | refine walkL_nil ?_ | refine walkL_ret ?_ | refine walkL_exit ?_ | refine blockA_here ?_ | refine blockA_other rfl ?_ | refine blockA_ret ?_ | refine blockA_normal ?_ | refine thenA_ret ?_ | refine thenA_exit ?_ | refine thenA_normal ?_)
        refine walkL_cond rfl (fun hd => ?_) (fun hd => ?_)
        · repeat (first | refine walkL_seq ?_ | refine walkL_skip ?_ | refine walkL_block ?_ | (refine walkL_region fun K hK => ?_; simp (maxSteps := 4000000) only [go_sem]; refine hK _ ?_; clear hK K) | refine walkL_nil ?_ | refine walkL_ret ?_ | refine walkL_exit ?_ | refine blockA_here ?_ | refine blockA_other rfl ?_ | refine blockA_ret ?_ | refine blockA_normal ?_ | refine thenA_ret ?_ | refine thenA_exit ?_ | refine thenA_normal ?_)
          have ha := any_of_get (q := fun x : Path => decide ((x.opens.length : Int) > 8)) hx hd
          simp (maxSteps := 4000000) only [go_sem, farB, hc, ha]
        · repeat (first | refine walkL_seq ?_ | refine walkL_skip ?_ | refine walkL_block ?_ | (refine walkL_region fun K hK => ?_; simp (maxSteps := 4000000) only [go_sem, hw]; refine hK _ ?_; clear hK K) | refine walkL_nil ?_ | refine walkL_ret ?_ | refine walkL_exit ?_ | refine blockA_here ?_ | refine blockA_other rfl ?_ | refine blockA_ret ?_ | refine blockA_normal ?_ | refine thenA_ret ?_ | refine thenA_exit ?_ | refine thenA_normal ?_)
          refine ⟨rfl, i + 1, ?_, ⟨hlt, any_take_succ hx hall hd⟩, by omega⟩
          refine weak_of [] ?_ ?_ rfl rfl <;> simp [lessT, lessM, lessB, AV.less]
      · have he : i = n.paths.length := by (have : ¬ i < n.paths.length := by simpa using hb); omega
        subst he
        rw [List.take_length] at hall
        have hf : farB n = (!badNet n && (decide (n.places > 6) || decide ((n.paths.length : Int) > 10))) := by unfold farB; rw [hc, hall]; rfl
        rw [hf]
        by_cases hbad : badNet n = true
        · repeat (first | refine walkL_seq ?_ | refine walkL_skip ?_ | refine walkL_block ?_ | (refine walkL_region fun K hK => ?_; simp (maxSteps := 4000000) only [go_sem, checkF, hbad]; (repeat (first | (refine ⟨_, .lent (hf := h27) (hd := rfl) (hr := rfl), ?_⟩; simp (maxSteps := 4000000) only [go_sem, checkF, hbad]) | (refine ⟨_, .given (hf := h27) (hd := rfl) (ha := rfl), ?_⟩; simp (maxSteps := 4000000) only [go_sem, checkF, hbad]))); refine hK _ ?_; clear hK K) | refine walkL_nil ?_ | refine walkL_ret ?_ | refine walkL_exit ?_ | refine blockA_here ?_ | refine blockA_other rfl ?_ | refine blockA_ret ?_ | refine blockA_normal ?_ | refine thenA_ret ?_ | refine thenA_exit ?_ | refine thenA_normal ?_)
          try simp (maxSteps := 4000000) only [go_sem, hbad]
        · by_cases hp : n.places > 6
          · repeat (first | refine walkL_seq ?_ | refine walkL_skip ?_ | refine walkL_block ?_ | (refine walkL_region fun K hK => ?_; simp (maxSteps := 4000000) only [go_sem, checkF, hbad, hp]; (repeat (first | (refine ⟨_, .lent (hf := h27) (hd := rfl) (hr := rfl), ?_⟩; simp (maxSteps := 4000000) only [go_sem, checkF, hbad, hp]) | (refine ⟨_, .given (hf := h27) (hd := rfl) (ha := rfl), ?_⟩; simp (maxSteps := 4000000) only [go_sem, checkF, hbad, hp]))); refine hK _ ?_; clear hK K) | refine walkL_nil ?_ | refine walkL_ret ?_ | refine walkL_exit ?_ | refine blockA_here ?_ | refine blockA_other rfl ?_ | refine blockA_ret ?_ | refine blockA_normal ?_ | refine thenA_ret ?_ | refine thenA_exit ?_ | refine thenA_normal ?_)
            simp (maxSteps := 4000000) only [go_sem, hbad, hp]
          · repeat (first | refine walkL_seq ?_ | refine walkL_skip ?_ | refine walkL_block ?_ | (refine walkL_region fun K hK => ?_; simp (maxSteps := 4000000) only [go_sem, checkF, hbad, hp]; (repeat (first | (refine ⟨_, .lent (hf := h27) (hd := rfl) (hr := rfl), ?_⟩; simp (maxSteps := 4000000) only [go_sem, checkF, hbad, hp]) | (refine ⟨_, .given (hf := h27) (hd := rfl) (ha := rfl), ?_⟩; simp (maxSteps := 4000000) only [go_sem, checkF, hbad, hp]))); refine hK _ ?_; clear hK K) | refine walkL_nil ?_ | refine walkL_ret ?_ | refine walkL_exit ?_ | refine blockA_here ?_ | refine blockA_other rfl ?_ | refine blockA_ret ?_ | refine blockA_normal ?_ | refine thenA_ret ?_ | refine thenA_exit ?_ | refine thenA_normal ?_)
            simp (maxSteps := 4000000) only [go_sem, hbad, hp]

structure Trip where
  frm : Int
  to : Int
  start : Int
  deadline : Int
  route : List Int
  path : Int
def Trip.row (x : Trip) : List DV := [.i x.frm, .i x.to, .i x.start, .i x.deadline, .sl (intRows x.route), .i x.path]

/-- What a statement looks at. -/
def fitsB (n : Net) (p : Party) (x : Trip) : Bool :=
  !farB n && (checkPartyF n p == 0 && (withinB x.frm 0 (n.places - 1) && (withinB x.to 0 (n.places - 1) && (withinB x.start 0 2880 && withinB x.deadline 0 2880))))

theorem checkParty_iff {n : Net} {p : Party} : checkPartyF n p = 0 ↔ n.Good ∧ p.Good := by
  unfold checkPartyF
  constructor
  · intro h
    split at h
    · cases h
    · rename_i h1
      split at h
      · cases h
      · rename_i h2; exact ⟨good_iff.1 h1, party_iff.1 h2⟩
  · rintro ⟨h1, h2⟩
    rw [if_neg (good_iff.2 h1), if_neg (party_iff.2 h2)]

theorem f20 (n : Net) (p : Party) (x : Trip) (hs : n.Small) : Fn Try.prog 20 [.agg n.cells, .agg p.cells, .agg x.row] (.bool (fitsB n p x)) := by
  have h12 := f12 n hs
  have h56 := f56 n p hs
  refine fn_walk 38 Try.call20 Try.func20 rfl (by decide) fun J => ?_
  simp (maxSteps := 4000000) only [go_sem, St.start, Try.ntmps20, Try.results20, Net.cells, Party.cells, Trip.row]
  by_cases hc : checkPartyF n p = 0
  · have hpl := (checkParty_iff.1 hc).1.places
    have h57 := fun y => f57 n y (by omega)
    have hcb : (checkPartyF n p == 0) = true := by simp [hc]
    repeat (first | refine walkL_seq ?_ | refine walkL_skip ?_ | refine walkL_block ?_ | (refine walkL_region fun K hK => ?_; simp (maxSteps := 4000000) only [go_sem, hcb]; (repeat (first | (refine ⟨_, .lent (hf := h12) (hd := rfl) (hr := rfl), ?_⟩; simp (maxSteps := 4000000) only [go_sem, hcb]) | (refine ⟨_, .given (hf := h12) (hd := rfl) (ha := rfl), ?_⟩; simp (maxSteps := 4000000) only [go_sem, hcb]))); refine hK _ ?_; clear hK K) | refine walkL_nil ?_ | refine walkL_ret ?_ | refine walkL_exit ?_ | refine blockA_here ?_ | refine blockA_other rfl ?_ | refine blockA_ret ?_ | refine blockA_normal ?_ | refine thenA_ret ?_ | refine thenA_exit ?_ | refine thenA_normal ?_)
    refine walkL_meetS [(6, .d (.bool (fitsB n p x)))] [] ?_ ?_
    · refine walkL_region fun K hK => ?_
      simp (maxSteps := 4000000) only [go_sem, hcb]
      refine ⟨_, .lent (hf := h12) (hd := rfl) (hr := rfl), ?_⟩
      simp (maxSteps := 4000000) only [go_sem, hcb]
      by_cases ho0 : (!farB n) = true
      · simp (maxSteps := 4000000) only [go_sem, hcb, ho0]
        refine ⟨_, .lent (hf := h56) (hd := rfl) (hr := rfl), ?_⟩
        simp (maxSteps := 4000000) only [go_sem, hcb, ho0]
        refine ⟨_, .lent (hf := h57 x.frm) (hd := rfl) (hr := rfl), ?_⟩
        simp (maxSteps := 4000000) only [go_sem, hcb, ho0]
        by_cases ho1 : (withinB x.frm 0 (n.places - 1)) = true
        · simp (maxSteps := 4000000) only [go_sem, hcb, ho0, ho1]
          refine ⟨_, .lent (hf := h57 x.to) (hd := rfl) (hr := rfl), ?_⟩
          simp (maxSteps := 4000000) only [go_sem, hcb, ho0, ho1]
          by_cases ho2 : (withinB x.to 0 (n.places - 1)) = true
          · simp (maxSteps := 4000000) only [go_sem, hcb, ho0, ho1, ho2]
            refine ⟨_, .lent (hf := f58 x.start) (hd := rfl) (hr := rfl), ?_⟩
            simp (maxSteps := 4000000) only [go_sem, hcb, ho0, ho1, ho2]
            by_cases ho3 : (withinB x.start 0 2880) = true
            · simp (maxSteps := 4000000) only [go_sem, hcb, ho0, ho1, ho2, ho3]
              refine ⟨_, .lent (hf := f58 x.deadline) (hd := rfl) (hr := rfl), ?_⟩
              simp (maxSteps := 4000000) only [go_sem, hcb, ho0, ho1, ho2, ho3]
              refine hK _ ?_
              clear hK K
              refine walkL_nil ?_
              refine thenA_normal ?_
              refine ⟨rfl, ?_⟩
              rw [show (fitsB n p x) = (withinB x.deadline 0 2880) from by simp [fitsB, hcb, ho0, ho1, ho2, ho3]]
              simp (maxSteps := 4000000) only [go_sem]
              refine weak_of [] ?_ ?_ rfl rfl <;> simp [lessT, lessM, lessB, AV.less]
            · simp (maxSteps := 4000000) only [go_sem, hcb, ho0, ho1, ho2, ho3]
              refine hK _ ?_
              clear hK K
              refine walkL_nil ?_
              refine thenA_normal ?_
              refine ⟨rfl, ?_⟩
              rw [show (fitsB n p x) = (false) from by simp [fitsB, hcb, ho0, ho1, ho2, ho3]]
              simp (maxSteps := 4000000) only [go_sem]
              refine weak_of [] ?_ ?_ rfl rfl <;> simp [lessT, lessM, lessB, AV.less]
          · simp (maxSteps := 4000000) only [go_sem, hcb, ho0, ho1, ho2]
            refine hK _ ?_
            clear hK K
            refine walkL_nil ?_
            refine thenA_normal ?_
            refine ⟨rfl, ?_⟩
            rw [show (fitsB n p x) = (false) from by simp [fitsB, hcb, ho0, ho1, ho2]]
            simp (maxSteps := 4000000) only [go_sem]
            refine weak_of [] ?_ ?_ rfl rfl <;> simp [lessT, lessM, lessB, AV.less]
        · simp (maxSteps := 4000000) only [go_sem, hcb, ho0, ho1]
          refine hK _ ?_
          clear hK K
          refine walkL_nil ?_
          refine thenA_normal ?_
          refine ⟨rfl, ?_⟩
          rw [show (fitsB n p x) = (false) from by simp [fitsB, hcb, ho0, ho1]]
          simp (maxSteps := 4000000) only [go_sem]
          refine weak_of [] ?_ ?_ rfl rfl <;> simp [lessT, lessM, lessB, AV.less]
      · simp (maxSteps := 4000000) only [go_sem, hcb, ho0]
        refine hK _ ?_
        clear hK K
        refine walkL_nil ?_
        refine thenA_normal ?_
        refine ⟨rfl, ?_⟩
        rw [show (fitsB n p x) = (false) from by simp [fitsB, hcb, ho0]]
        simp (maxSteps := 4000000) only [go_sem]
        refine weak_of [] ?_ ?_ rfl rfl <;> simp [lessT, lessM, lessB, AV.less]
    · simp (maxSteps := 4000000) only [go_sem]
      repeat (first | refine walkL_seq ?_ | refine walkL_skip ?_ | refine walkL_block ?_ | (refine walkL_region fun K hK => ?_; simp (maxSteps := 4000000) only [go_sem]; refine hK _ ?_; clear hK K) | refine walkL_nil ?_ | refine walkL_ret ?_ | refine walkL_exit ?_ | refine blockA_here ?_ | refine blockA_other rfl ?_ | refine blockA_ret ?_ | refine blockA_normal ?_ | refine thenA_ret ?_ | refine thenA_exit ?_ | refine thenA_normal ?_)
      simp (maxSteps := 4000000) only [go_sem]
  · have hcb : (checkPartyF n p == 0) = false := by simp [hc]
    have hf : fitsB n p x = false := by simp [fitsB, hcb]
    by_cases hfar : farB n = true
    · repeat (first | refine walkL_seq ?_ | refine walkL_skip ?_ | refine walkL_block ?_ | (refine walkL_region fun K hK => ?_; simp (maxSteps := 4000000) only [go_sem, hcb, hfar]; (repeat (first | (refine ⟨_, .lent (hf := h12) (hd := rfl) (hr := rfl), ?_⟩; simp (maxSteps := 4000000) only [go_sem, hcb, hfar]) | (refine ⟨_, .given (hf := h12) (hd := rfl) (ha := rfl), ?_⟩; simp (maxSteps := 4000000) only [go_sem, hcb, hfar]))); refine hK _ ?_; clear hK K) | refine walkL_nil ?_ | refine walkL_ret ?_ | refine walkL_exit ?_ | refine blockA_here ?_ | refine blockA_other rfl ?_ | refine blockA_ret ?_ | refine blockA_normal ?_ | refine thenA_ret ?_ | refine thenA_exit ?_ | refine thenA_normal ?_)
      try simp (maxSteps := 4000000) only [go_sem, hf]
    · repeat (first | refine walkL_seq ?_ | refine walkL_skip ?_ | refine walkL_block ?_ | (refine walkL_region fun K hK => ?_; simp (maxSteps := 4000000) only [go_sem, hcb, hfar]; (repeat (first | (refine ⟨_, .lent (hf := h12) (hd := rfl) (hr := rfl), ?_⟩; simp (maxSteps := 4000000) only [go_sem, hcb, hfar]) | (refine ⟨_, .lent (hf := h56) (hd := rfl) (hr := rfl), ?_⟩; simp (maxSteps := 4000000) only [go_sem, hcb, hfar]) | (refine ⟨_, .given (hf := h12) (hd := rfl) (ha := rfl), ?_⟩; simp (maxSteps := 4000000) only [go_sem, hcb, hfar]) | (refine ⟨_, .given (hf := h56) (hd := rfl) (ha := rfl), ?_⟩; simp (maxSteps := 4000000) only [go_sem, hcb, hfar]))); refine hK _ ?_; clear hK K) | refine walkL_nil ?_ | refine walkL_ret ?_ | refine walkL_exit ?_ | refine blockA_here ?_ | refine blockA_other rfl ?_ | refine blockA_ret ?_ | refine blockA_normal ?_ | refine thenA_ret ?_ | refine thenA_exit ?_ | refine thenA_normal ?_)
      simp (maxSteps := 4000000) only [go_sem, hf]
end Go.Ab
/- Plain laws of layer 1: paths, arrivals, deadlines. -/
namespace Go.Ab
open Go.RowKit Go.Proofs
set_option maxHeartbeats 1000000

/-! ### One path -/

theorem enter_le_iff (t b : Int) : ∀ (l : List Span) (f : Int), l.foldl (fun f s => if t ≤ s.hi then min f (max t s.lo) else f) f ≤ b ↔ f ≤ b ∨ ∃ s ∈ l, t ≤ s.hi ∧ max t s.lo ≤ b
  | [], f => by simp
  | s :: l, f => by
    rw [List.foldl_cons, enter_le_iff t b l]
    simp only [List.mem_cons, exists_eq_or_imp]
    split
    · rename_i h
      constructor
      · rintro (h1 | h1)
        · by_cases h2 : f ≤ b
          · exact .inl h2
          · exact .inr (.inl ⟨h, by omega⟩)
        · exact .inr (.inr h1)
      · rintro (h1 | h1 | h1)
        · exact .inl (by omega)
        · exact .inl (by omega)
        · exact .inr h1
    · rename_i h
      constructor
      · rintro (h1 | h1)
        · exact .inl h1
        · exact .inr (.inr h1)
      · rintro (h1 | h1 | h1)
        · exact .inl h1
        · omega
        · exact .inr h1

theorem latest_ge_iff (c b : Int) : ∀ (l : List Span) (f : Int), c ≤ l.foldl (fun last s => if s.lo ≤ b then max last (min s.hi b) else last) f ↔ c ≤ f ∨ ∃ s ∈ l, s.lo ≤ b ∧ c ≤ min s.hi b
  | [], f => by simp
  | s :: l, f => by
    rw [List.foldl_cons, latest_ge_iff c b l]
    simp only [List.mem_cons, exists_eq_or_imp]
    split
    · rename_i h
      constructor
      · rintro (h1 | h1)
        · by_cases h2 : c ≤ f
          · exact .inl h2
          · exact .inr (.inl ⟨h, by omega⟩)
        · exact .inr (.inr h1)
      · rintro (h1 | h1 | h1)
        · exact .inl (by omega)
        · exact .inl (by omega)
        · exact .inr h1
    · rename_i h
      constructor
      · rintro (h1 | h1)
        · exact .inl h1
        · exact .inr (.inr h1)
      · rintro (h1 | h1 | h1)
        · exact .inl h1
        · omega
        · exact .inr h1

theorem enter_never (opens : List Span) (t : Int) : enterF opens t ≤ never := (enter_le_iff t never opens _).2 (.inl (by decide))

theorem enter_ge {opens : List Span} {t : Int} (h : enterF opens t < never) : t ≤ enterF opens t := by
  have h1 := (enter_le_iff t (enterF opens t) opens 1073741824).1 (Int.le_refl _)
  rcases h1 with h1 | ⟨s, _, _, h1⟩
  · have : (1073741824 : Int) = never := rfl
    omega
  · omega

theorem enter_nonneg {opens : List Span} {t : Int} (h : 0 ≤ t) : 0 ≤ enterF opens t := by
  by_cases h1 : enterF opens t < never
  · have := enter_ge h1; omega
  · have : (1073741824 : Int) = never := rfl
    omega

/-- The time of a path is such. -/
def okTime (d : Int) : Prop := 1 ≤ d ∧ d ≤ 6000

theorem arrive_eq {opens : List Span} {t d : Int} (ht : 0 ≤ t) (hd : okTime d) : arriveF opens t d = if enterF opens t + d > 2880 then never else enterF opens t + d := by
  have h1 := enter_nonneg (opens := opens) ht
  have h2 := enter_never opens t
  have hv : never = 1073741824 := rfl
  have hw : wr (enterF opens t + d) = enterF opens t + d := wr_small (by unfold okTime at hd; omega)
  unfold arriveF
  rw [hw]
  rfl

theorem arrive_le_iff {opens : List Span} {t d b : Int} (ht : 0 ≤ t) (hd : okTime d) (hb : b ≤ 2880) : arriveF opens t d ≤ b ↔ ∃ s ∈ opens, t ≤ s.hi ∧ max t s.lo ≤ b - d := by
  have hv : never = 1073741824 := rfl
  unfold okTime at hd
  rw [arrive_eq ht hd]
  have h := enter_le_iff t (b - d) opens 1073741824
  change enterF opens t ≤ b - d ↔ _ at h
  constructor
  · intro h1
    split at h1
    · omega
    · rcases h.1 (by omega) with h2 | h2
      · omega
      · exact h2
  · intro h1
    have := h.2 (.inr h1)
    rw [if_neg (by omega)]
    omega

theorem latest_iff {opens : List Span} {t d b : Int} (ht : 0 ≤ t) (hd : okTime d) (hb : b ≤ 2880) (hb0 : -1 ≤ b) : t ≤ latestF opens (wr (b - d)) ↔ arriveF opens t d ≤ b := by
  have hw : wr (b - d) = b - d := wr_small (by unfold okTime at hd; omega)
  rw [hw, arrive_le_iff ht hd hb]
  have h := latest_ge_iff t (b - d) opens (-1)
  change t ≤ latestF opens (b - d) ↔ _ at h
  rw [h]
  constructor
  · rintro (h1 | ⟨s, h1, h2, h3⟩)
    · omega
    · exact ⟨s, h1, by omega, by omega⟩
  · rintro ⟨s, h1, h2, h3⟩
    exact .inr ⟨s, h1, by omega, by omega⟩

theorem arrive_range {opens : List Span} {t d : Int} (ht : 0 ≤ t) (hd : okTime d) : arriveF opens t d = never ∨ (t + d ≤ arriveF opens t d ∧ arriveF opens t d ≤ 2880) := by
  have hv : never = 1073741824 := rfl
  unfold okTime at hd
  rw [arrive_eq ht hd]
  split
  · exact .inl rfl
  · have := enter_ge (opens := opens) (t := t) (by omega)
    exact .inr (by omega)

theorem arrive_mono {opens : List Span} {t t' d : Int} (ht : 0 ≤ t) (hle : t ≤ t') (hd : okTime d) : arriveF opens t d ≤ arriveF opens t' d := by
  have hv : never = 1073741824 := rfl
  rcases arrive_range (opens := opens) (t := t') (by omega) hd with h | ⟨h1, h2⟩
  · rw [h]
    rcases arrive_range (opens := opens) ht hd with h' | h'
    · omega
    · omega
  · obtain ⟨s, q1, q2, q3⟩ := (arrive_le_iff (b := arriveF opens t' d) (by omega) hd h2).1 (Int.le_refl _)
    exact (arrive_le_iff ht hd h2).2 ⟨s, q1, by omega, by omega⟩

theorem latest_low (opens : List Span) (b : Int) : -1 ≤ latestF opens b := (latest_ge_iff (-1) b opens (-1)).2 (.inl (Int.le_refl _))

/-! ### The time of a path -/

theorem time_eq {t pace snow load : Int} (ht : 1 ≤ t ∧ t ≤ 600) (hp : 50 ≤ pace ∧ pace ≤ 300) (hs : 0 ≤ snow ∧ snow ≤ 30) (hl : 0 ≤ load ∧ load ≤ 40) :
    timeW t pace snow load = (t * pace * (100 + 5 * snow + load) + 9999) / 10000 ∧ okTime (timeW t pace snow load) := by
  have h1 : 50 ≤ t * pace := by have := Int.mul_le_mul ht.1 hp.1 (by omega) (by omega); omega
  have h2 : t * pace ≤ 180000 := by have := Int.mul_le_mul ht.2 hp.2 (by omega) (by omega); omega
  have h3 : 100 ≤ 100 + 5 * snow + load := by omega
  have h4 : 100 + 5 * snow + load ≤ 290 := by omega
  have h5 : 5000 ≤ t * pace * (100 + 5 * snow + load) := by have := Int.mul_le_mul h1 h3 (by omega) (by omega); omega
  have h6 : t * pace * (100 + 5 * snow + load) ≤ 52200000 := by have := Int.mul_le_mul h2 h4 (by omega) (by omega); omega
  have e1 : wr (t * pace) = t * pace := wr_small (by omega)
  have e2 : wr (5 * snow) = 5 * snow := wr_small (by omega)
  have e3 : wr (100 + 5 * snow) = 100 + 5 * snow := wr_small (by omega)
  have e4 : wr (100 + 5 * snow + load) = 100 + 5 * snow + load := wr_small (by omega)
  have e5 : wr (t * pace * (100 + 5 * snow + load)) = t * pace * (100 + 5 * snow + load) := wr_small (by omega)
  have e6 : wr (t * pace * (100 + 5 * snow + load) + 9999) = t * pace * (100 + 5 * snow + load) + 9999 := wr_small (by omega)
  have e7 : (t * pace * (100 + 5 * snow + load) + 9999).tdiv 10000 = (t * pace * (100 + 5 * snow + load) + 9999) / 10000 := Int.tdiv_eq_ediv_of_nonneg (by omega)
  have h : timeW t pace snow load = (t * pace * (100 + 5 * snow + load) + 9999) / 10000 := by
    unfold timeW
    rw [e1, e2, e3, e4, e5, e6, e7]
    exact wr_small (by omega)
  refine ⟨h, ?_⟩
  rw [h]
  unfold okTime
  omega

theorem span_ok {n : Net} {p : Party} {x : Path} (hx : x.Good n) (hp : p.Good) : okTime (spanW x p).hi ∧ okTime (spanW x p).lo ∧ (spanW x p).lo ≤ (spanW x p).hi := by
  obtain ⟨t1, t2, t3⟩ := hx.time
  obtain ⟨s1, s2, s3⟩ := hx.snow
  obtain ⟨p1, p2, p3⟩ := hp.pace
  obtain ⟨a1, a2⟩ := time_eq (t := x.time.hi) (pace := p.pace.hi) (snow := x.snow.hi) (load := p.load) (by omega) (by omega) (by omega) hp.load
  obtain ⟨b1, b2⟩ := time_eq (t := x.time.lo) (pace := p.pace.lo) (snow := x.snow.lo) (load := p.load) (by omega) (by omega) (by omega) hp.load
  have hl := hp.load
  refine ⟨a2, b2, ?_⟩
  show timeW _ _ _ _ ≤ timeW _ _ _ _
  rw [a1, b1]
  have h1 : x.time.lo * p.pace.lo ≤ x.time.hi * p.pace.hi := Int.mul_le_mul t2 p2 (by omega) (by omega)
  have h2 : x.time.lo * p.pace.lo * (100 + 5 * x.snow.lo + p.load) ≤ x.time.hi * p.pace.hi * (100 + 5 * x.snow.hi + p.load) := by
    refine Int.mul_le_mul h1 (by omega) (by omega) ?_
    exact Int.mul_nonneg (by omega) (by omega)
  omega

/-! ### Passes -/

theorem fold_same {α W : Type} (r : α × Bool → W → α × Bool) (h1 : ∀ a w, r a w = a ∨ (r a w).2 = true) (h2 : ∀ a w, a.2 = true → (r a w).2 = true) :
    ∀ (ws : List W) (a : α × Bool), (ws.foldl r a).2 = false → ws.foldl r a = a ∧ ∀ w ∈ ws, r a w = a := by
  have keep : ∀ (ws : List W) (a : α × Bool), a.2 = true → (ws.foldl r a).2 = true := by
    intro ws
    induction ws with
    | nil => exact fun _ h => h
    | cons w ws ih => exact fun a h => by rw [List.foldl_cons]; exact ih _ (h2 a w h)
  intro ws
  induction ws with
  | nil => exact fun a _ => ⟨rfl, by simp⟩
  | cons w ws ih =>
    intro a h
    rw [List.foldl_cons] at h ⊢
    rcases h1 a w with e | e
    · rw [e] at h ⊢
      obtain ⟨q1, q2⟩ := ih a h
      exact ⟨q1, by intro w' hw'; rcases List.mem_cons.1 hw' with rfl | hw'; exact e; exact q2 w' hw'⟩
    · rw [keep ws _ e] at h; cases h

theorem getI_set (l : List Int) (k y v : Int) (hk : 0 ≤ k) (hkl : k.toNat < l.length) (hy : 0 ≤ y) : getI (l.set k.toNat v) y = if y = k then v else getI l y := by
  unfold getI
  rw [List.getD_eq_getElem?_getD, List.getD_eq_getElem?_getD, List.getElem?_set]
  by_cases h : y = k
  · subst h; simp [hkl]
  · rw [if_neg (by omega), if_neg h]

/-- From a place, at a minute, to a place, by then: on paths of a list, each taking its time. -/
inductive Reach (ws : List (Nat × Path)) (dur : Path → Int) (x s : Int) : Int → Int → Prop where
  | refl : Reach ws dur x s x s
  | step {y t : Int} (w : Nat × Path) : Reach ws dur x s y t → w ∈ ws → w.2.frm = y → arriveF w.2.opens t (dur w.2) ≤ 2880 → Reach ws dur x s w.2.to (arriveF w.2.opens t (dur w.2))

/-- Paths that are as they must be. -/
def OkWs (n : Net) (dur : Path → Int) (ws : List (Nat × Path)) : Prop := ∀ w ∈ ws, (0 ≤ w.2.frm ∧ w.2.frm < n.places) ∧ (0 ≤ w.2.to ∧ w.2.to < n.places) ∧ okTime (dur w.2)

theorem ways_ok {n : Net} {p : Party} (hn : n.Good) (hp : p.Good) (but : Int) : OkWs n (fun x => (spanW x p).hi) (waysL n p but) ∧ OkWs n (fun x => (spanW x p).lo) (waysL n p but) := by
  constructor <;>
  · intro w hw
    have hg := hn.path w.2 (List.mem_of_getElem? (waysL_get hw))
    have := span_ok hg hp
    exact ⟨hg.frm, hg.to, by first | exact this.1 | exact this.2.1⟩

theorem Reach.range {n : Net} {ws : List (Nat × Path)} {dur : Path → Int} (hw : OkWs n dur ws) {x s y t : Int} (hs : 0 ≤ s ∧ s ≤ 2880) (hx : 0 ≤ x ∧ x < n.places) (h : Reach ws dur x s y t) :
    s ≤ t ∧ t ≤ 2880 ∧ 0 ≤ y ∧ y < n.places := by
  induction h with
  | refl => omega
  | @step y t w _ hm hf hle ih =>
    obtain ⟨h1, h2, h3⟩ := hw w hm
    have hv : never = 1073741824 := rfl
    rcases arrive_range (opens := w.2.opens) (t := t) (d := dur w.2) (by omega) h3 with h | h
    · omega
    · unfold okTime at h3; omega

/-- What is reached later on is not reached sooner by whoever starts later. -/
theorem Reach.mono {n : Net} {ws : List (Nat × Path)} {dur : Path → Int} (hw : OkWs n dur ws) {x s s' y t : Int} (hs : 0 ≤ s' ∧ s' ≤ s) (h2 : s ≤ 2880) (hx : 0 ≤ x ∧ x < n.places) (h : Reach ws dur x s y t) : ∃ t', t' ≤ t ∧ Reach ws dur x s' y t' := by
  induction h with
  | refl => exact ⟨s', hs.2, .refl⟩
  | @step y t w hr hm hf hle ih =>
    obtain ⟨t', ht', hr'⟩ := ih
    have hrg := hr'.range hw (by omega) hx
    have := arrive_mono (opens := w.2.opens) (t := t') (t' := t) (d := dur w.2) (by omega) ht' (hw w hm).2.2
    exact ⟨_, this, .step w hr' hm hf (by omega)⟩
end Go.Ab
/- Plain laws of layer 1: what the passes come to. -/
namespace Go.Ab
open Go.RowKit Go.Proofs
set_option maxHeartbeats 1000000

theorem Reach.trans {ws : List (Nat × Path)} {dur : Path → Int} {x s y t z u : Int} (h : Reach ws dur x s y t) (h' : Reach ws dur y t z u) : Reach ws dur x s z u := by
  induction h' with
  | refl => exact h
  | step w _ hm hf hle ih => exact .step w ih hm hf hle

theorem Reach.one {ws : List (Nat × Path)} {dur : Path → Int} {t : Int} {w : Nat × Path} (hm : w ∈ ws) (hle : arriveF w.2.opens t (dur w.2) ≤ 2880) : Reach ws dur w.2.frm t w.2.to (arriveF w.2.opens t (dur w.2)) :=
  .step w .refl hm rfl hle

/-! ### Arrivals -/

theorem relaxA_or (p : Party) (q : Span → Int) (a : List Int × Bool) (w : Nat × Path) : relaxA p q a w = a ∨ (relaxA p q a w).2 = true := by
  unfold relaxA
  split
  · exact .inl rfl
  · dsimp only; split
    · exact .inr rfl
    · exact .inl rfl
theorem relaxA_flag (p : Party) (q : Span → Int) (a : List Int × Bool) (w : Nat × Path) (h : a.2 = true) : (relaxA p q a w).2 = true := by
  rcases relaxA_or p q a w with e | e
  · rw [e]; exact h
  · exact e

section
variable {n : Net} {p : Party} {q : Span → Int} {but frm start : Int}

def ArrInv (n : Net) (ws : List (Nat × Path)) (dur : Path → Int) (frm start : Int) (l : List Int) : Prop :=
  l.length = n.places.toNat ∧ getI l frm ≤ start ∧ ∀ y, 0 ≤ y → y < n.places → getI l y = never ∨ (0 ≤ getI l y ∧ getI l y ≤ 2880 ∧ Reach ws dur frm start y (getI l y))

theorem relaxA_inv {ws : List (Nat × Path)} (hw : OkWs n (fun x => q (spanW x p)) ws) (hf : 0 ≤ frm ∧ frm < n.places) (a : List Int × Bool) (w : Nat × Path) (hm : w ∈ ws) (h : ArrInv n ws (fun x => q (spanW x p)) frm start a.1) :
    ArrInv n ws (fun x => q (spanW x p)) frm start (relaxA p q a w).1 := by
  obtain ⟨w1, w2, w3⟩ := hw w hm
  have w3 : okTime (q (spanW w.2 p)) := w3
  obtain ⟨h1, h2, h3⟩ := h
  have hv : never = 1073741824 := rfl
  unfold relaxA
  split
  · exact ⟨h1, h2, h3⟩
  · rename_i hn
    dsimp only
    split
    · rename_i hlt
      have hsz : w.2.to.toNat < a.1.length := by omega
      rcases h3 w.2.frm w1.1 w1.2 with h4 | ⟨h4, h5, h6⟩
      · exact absurd h4 hn
      have hle : arriveF w.2.opens (getI a.1 w.2.frm) (q (spanW w.2 p)) ≤ 2880 := by
        rcases arrive_range (opens := w.2.opens) h4 w3 with h | h
        · rcases h3 w.2.to w2.1 w2.2 with h7 | h7 <;> omega
        · omega
      have hge : 0 ≤ arriveF w.2.opens (getI a.1 w.2.frm) (q (spanW w.2 p)) := by
        rcases arrive_range (opens := w.2.opens) h4 w3 with h | h
        · omega
        · unfold okTime at w3; omega
      refine ⟨by simpa using h1, ?_, fun y hy hyn => ?_⟩
      · rw [getI_set _ _ _ _ w2.1 hsz hf.1]
        split
        · rename_i e; subst e; omega
        · exact h2
      · rw [getI_set _ _ _ _ w2.1 hsz hy]
        split
        · rename_i e; subst e
          exact .inr ⟨hge, hle, .step w h6 hm rfl hle⟩
        · exact h3 y hy hyn
    · exact ⟨h1, h2, h3⟩

theorem foldA_inv {ws : List (Nat × Path)} (hw : OkWs n (fun x => q (spanW x p)) ws) (hf : 0 ≤ frm ∧ frm < n.places) : ∀ (vs : List (Nat × Path)) (a : List Int × Bool), (∀ w ∈ vs, w ∈ ws) → ArrInv n ws (fun x => q (spanW x p)) frm start a.1 →
    ArrInv n ws (fun x => q (spanW x p)) frm start (vs.foldl (relaxA p q) a).1
  | [], _, _, h => h
  | w :: vs, a, hs, h => by
    rw [List.foldl_cons]
    exact foldA_inv hw hf vs _ (fun w' h' => hs w' (by simp [h'])) (relaxA_inv hw hf a w (hs w (by simp)) h)

/-- The passes end where one changes nothing. -/
theorem fixA_spec (hw : OkWs n (fun x => q (spanW x p)) (waysL n p but)) (hf : 0 ≤ frm ∧ frm < n.places) : ∀ (k : Nat) (l : List Int), fallM l < k → ArrInv n (waysL n p but) (fun x => q (spanW x p)) frm start l →
    ArrInv n (waysL n p but) (fun x => q (spanW x p)) frm start (fixA n p q but k l) ∧ ∀ w ∈ waysL n p but, relaxA p q (fixA n p q but k l, false) w = (fixA n p q but k l, false)
  | 0, l, h, _ => by omega
  | k + 1, l, h, hi => by
    have hM := foldA_M p q (waysL n p but) (l, false) (fun w hm => by have := (hw w hm).2.1; have := hi.1; show w.2.to.toNat < l.length; omega)
    unfold fixA
    split
    · rename_i hc
      have hlt := hM.2 rfl hc
      refine fixA_spec hw hf k _ (by show fallM (passA n p q but l).1 < k; unfold passA; dsimp only at hlt; omega) ?_
      exact foldA_inv hw hf _ (l, false) (fun _ h => h) hi
    · rename_i hc
      obtain ⟨e1, e2⟩ := fold_same (relaxA p q) (relaxA_or p q) (relaxA_flag p q) (waysL n p but) (l, false) (by simpa [passA] using hc)
      have e3 : (passA n p q but l).1 = l := by unfold passA; rw [e1]
      rw [e3]
      exact ⟨hi, e2⟩

/-- Arrivals: what they are. -/
theorem arr_spec (hw : OkWs n (fun x => q (spanW x p)) (waysL n p but)) (hf : 0 ≤ frm ∧ frm < n.places) (hs : 0 ≤ start ∧ start ≤ 2880) :
    (∀ y, 0 ≤ y → y < n.places → getI (arrivalsL n p q frm start but) y = never ∨ (0 ≤ getI (arrivalsL n p q frm start but) y ∧ getI (arrivalsL n p q frm start but) y ≤ 2880 ∧ Reach (waysL n p but) (fun x => q (spanW x p)) frm start y (getI (arrivalsL n p q frm start but) y))) ∧
    ∀ y t, Reach (waysL n p but) (fun x => q (spanW x p)) frm start y t → getI (arrivalsL n p q frm start but) y ≤ t := by
  have hv : never = 1073741824 := rfl
  have h0 : ArrInv n (waysL n p but) (fun x => q (spanW x p)) frm start (arrivals0 n frm start) := by
    have hl : frm.toNat < (List.replicate n.places.toNat never).length := by simp; omega
    refine ⟨by simp [arrivals0], ?_, fun y hy hyn => ?_⟩
    · unfold arrivals0; rw [getI_set _ _ _ _ hf.1 hl hf.1, if_pos rfl]; exact Int.le_refl _
    · unfold arrivals0
      rw [getI_set _ _ _ _ hf.1 hl hy]
      split
      · rename_i e; subst e; exact .inr ⟨hs.1, hs.2, .refl⟩
      · left; unfold getI; rw [List.getD_eq_getElem?_getD, List.getElem?_replicate, if_pos (by omega)]; rfl
  obtain ⟨⟨h1, h2, h3⟩, h4⟩ := fixA_spec hw hf (fallM (arrivals0 n frm start) + 1) (arrivals0 n frm start) (Nat.lt_succ_self _) h0
  change ((arrivalsL n p q frm start but).length = _) at h1
  refine ⟨h3, fun y t hr => ?_⟩
  have key : ∀ y t, Reach (waysL n p but) (fun x => q (spanW x p)) frm start y t → getI (arrivalsL n p q frm start but) y ≤ t ∧ t ≤ 2880 ∧ 0 ≤ t := by
    intro y t hr
    induction hr with
    | refl => exact ⟨h2, hs.2, hs.1⟩
    | @step y t w hr hm hfe hle ih =>
      obtain ⟨w1, w2, w3⟩ := hw w hm
      have w3 : okTime (q (spanW w.2 p)) := w3
      obtain ⟨i1, i2, i3⟩ := ih
      have hge : 0 ≤ arriveF w.2.opens t (q (spanW w.2 p)) := by
        rcases arrive_range (opens := w.2.opens) i3 w3 with h | h
        · omega
        · unfold okTime at w3; omega
      refine ⟨?_, hle, hge⟩
      have h5 := h4 w hm
      change relaxA p q (arrivalsL n p q frm start but, false) w = (arrivalsL n p q frm start but, false) at h5
      unfold relaxA at h5
      rw [hfe] at h5
      split at h5
      · rename_i h6; dsimp only at h6; omega
      · dsimp only at h5
        split at h5
        · exact absurd (congrArg Prod.snd h5) (by simp)
        · rename_i h6
          have h7 : 0 ≤ getI (arrivalsL n p q frm start but) y := by
            rcases h3 y (by omega) (by omega) with h | h
            · have h8 : getI (arrivalsL n p q frm start but) y = never := h
              omega
            · exact h.1
          have h8 := arrive_mono (opens := w.2.opens) h7 i1 w3
          show getI (arrivalsL n p q frm start but) w.2.to ≤ arriveF w.2.opens t (q (spanW w.2 p))
          omega
  exact (key y t hr).1

end

/-! ### Deadlines -/

theorem relaxD_or (p : Party) (a : List Int × Bool) (w : Nat × Path) : relaxD p a w = a ∨ (relaxD p a w).2 = true := by
  unfold relaxD
  dsimp only; split
  · exact .inr rfl
  · exact .inl rfl
theorem relaxD_flag (p : Party) (a : List Int × Bool) (w : Nat × Path) (h : a.2 = true) : (relaxD p a w).2 = true := by
  rcases relaxD_or p a w with e | e
  · rw [e]; exact h
  · exact e

section
variable {n : Net} {p : Party} {to b : Int}

abbrev durHi (p : Party) : Path → Int := fun x => (spanW x p).hi
abbrev durLo (p : Party) : Path → Int := fun x => (spanW x p).lo

def DeadInv (n : Net) (p : Party) (to b : Int) (l : List Int) : Prop :=
  l.length = n.places.toNat ∧ b ≤ getI l to ∧ ∀ x, 0 ≤ x → x < n.places → -1 ≤ getI l x ∧ getI l x ≤ 2880 ∧ (0 ≤ getI l x → ∃ t, t ≤ b ∧ Reach (waysL n p (-1)) (durHi p) x (getI l x) to t)

theorem relaxD_inv (hn : n.Good) (hp : p.Good) (ht : 0 ≤ to ∧ to < n.places) (a : List Int × Bool) (w : Nat × Path) (hm : w ∈ waysL n p (-1)) (h : DeadInv n p to b a.1) : DeadInv n p to b (relaxD p a w).1 := by
  have hw := (ways_ok hn hp (-1)).1
  obtain ⟨w1, w2, w3⟩ := hw w hm
  have w3 : okTime (durHi p w.2) := w3
  obtain ⟨h1, h2, h3⟩ := h
  unfold relaxD
  dsimp only
  split
  · rename_i hgt
    have hsz : w.2.frm.toNat < a.1.length := by omega
    obtain ⟨c1, c2, c3⟩ := h3 w.2.to w2.1 w2.2
    obtain ⟨f1, _, _⟩ := h3 w.2.frm w1.1 w1.2
    obtain ⟨v, hv⟩ : ∃ v, v = latestF w.2.opens (wr (getI a.1 w.2.to - (spanW w.2 p).hi)) := ⟨_, rfl⟩
    rw [← hv] at hgt ⊢
    have hv0 : 0 ≤ v := by omega
    have harr := (latest_iff (opens := w.2.opens) hv0 w3 c2 c1).1 (by rw [hv]; exact Int.le_refl _)
    have hge : 0 ≤ arriveF w.2.opens v (durHi p w.2) := by
      have hnv : never = 1073741824 := rfl
      rcases arrive_range (opens := w.2.opens) hv0 w3 with h | h
      · omega
      · unfold okTime at w3; omega
    have hvh : v ≤ 2880 := by rw [hv]; exact latestF_le _ _ _ (by omega) (hn.hi w.2 (List.mem_of_getElem? (waysL_get hm)))
    refine ⟨by simpa using h1, ?_, fun x hx hxn => ?_⟩
    · rw [getI_set _ _ _ _ w1.1 hsz ht.1]
      split
      · rename_i e; subst e; omega
      · exact h2
    · rw [getI_set _ _ _ _ w1.1 hsz hx]
      split
      · rename_i e; subst e
        refine ⟨by omega, hvh, fun _ => ?_⟩
        obtain ⟨t, ht1, ht2⟩ := c3 (by omega)
        obtain ⟨t', ht1', ht2'⟩ := ht2.mono hw ⟨hge, harr⟩ c2 w2
        exact ⟨t', by omega, (Reach.one hm (by omega)).trans ht2'⟩
      · exact h3 x hx hxn
  · exact ⟨h1, h2, h3⟩

theorem foldD_inv (hn : n.Good) (hp : p.Good) (ht : 0 ≤ to ∧ to < n.places) : ∀ (vs : List (Nat × Path)) (a : List Int × Bool), (∀ w ∈ vs, w ∈ waysL n p (-1)) → DeadInv n p to b a.1 → DeadInv n p to b (vs.foldl (relaxD p) a).1
  | [], _, _, h => h
  | w :: vs, a, hs, h => by
    rw [List.foldl_cons]
    exact foldD_inv hn hp ht vs _ (fun w' h' => hs w' (by simp [h'])) (relaxD_inv hn hp ht a w (hs w (by simp)) h)

theorem fixD_spec (hn : n.Good) (hp : p.Good) (ht : 0 ≤ to ∧ to < n.places) : ∀ (k : Nat) (l : List Int), riseM l < k → DeadInv n p to b l →
    DeadInv n p to b (fixD n p k l) ∧ ∀ w ∈ waysL n p (-1), relaxD p (fixD n p k l, false) w = (fixD n p k l, false)
  | 0, l, h, _ => by omega
  | k + 1, l, h, hi => by
    have hw := (ways_ok hn hp (-1)).1
    have hM := foldD_M p (waysL n p (-1)) (l, false) (fun w hm => ⟨(hw w hm).1.1, by have := (hw w hm).1; have := hi.1; show w.2.frm.toNat < l.length; omega, hn.hi w.2 (List.mem_of_getElem? (waysL_get hm))⟩)
    unfold fixD
    split
    · rename_i hc
      have hlt := hM.2 rfl hc
      refine fixD_spec hn hp ht k _ (by show riseM (passD n p l).1 < k; unfold passD; dsimp only at hlt; omega) ?_
      exact foldD_inv hn hp ht _ (l, false) (fun _ h => h) hi
    · rename_i hc
      obtain ⟨e1, e2⟩ := fold_same (relaxD p) (relaxD_or p) (relaxD_flag p) (waysL n p (-1)) (l, false) (by simpa [passD] using hc)
      have e3 : (passD n p l).1 = l := by unfold passD; rw [e1]
      rw [e3]
      exact ⟨hi, e2⟩

/-- Deadlines: what they are. -/
theorem dead_spec (hn : n.Good) (hp : p.Good) (ht : 0 ≤ to ∧ to < n.places) (hb : 0 ≤ b ∧ b ≤ 2880) :
    (∀ x, 0 ≤ x → x < n.places → -1 ≤ getI (deadlinesL n p to b) x ∧ getI (deadlinesL n p to b) x ≤ 2880) ∧
    ∀ x s, 0 ≤ x → x < n.places → 0 ≤ s → s ≤ 2880 → (s ≤ getI (deadlinesL n p to b) x ↔ ∃ t, t ≤ b ∧ Reach (waysL n p (-1)) (durHi p) x s to t) := by
  have hw := (ways_ok hn hp (-1)).1
  have h0 : DeadInv n p to b (deadlines0 n to b) := by
    have hl : to.toNat < (List.replicate n.places.toNat (-1 : Int)).length := by simp; omega
    refine ⟨by simp [deadlines0], ?_, fun x hx hxn => ?_⟩
    · unfold deadlines0; rw [getI_set _ _ _ _ ht.1 hl ht.1, if_pos rfl]; exact Int.le_refl _
    · unfold deadlines0
      rw [getI_set _ _ _ _ ht.1 hl hx]
      split
      · rename_i e; subst e; exact ⟨by omega, hb.2, fun _ => ⟨b, Int.le_refl _, .refl⟩⟩
      · have : getI (List.replicate n.places.toNat (-1 : Int)) x = -1 := by unfold getI; rw [List.getD_eq_getElem?_getD, List.getElem?_replicate, if_pos (by omega)]; rfl
        rw [this]
        exact ⟨by omega, by omega, fun h => by omega⟩
  obtain ⟨⟨h1, h2, h3⟩, h4⟩ := fixD_spec hn hp ht (riseM (deadlines0 n to b) + 1) (deadlines0 n to b) (Nat.lt_succ_self _) h0
  change ((deadlinesL n p to b).length = _) at h1
  change (b ≤ getI (deadlinesL n p to b) to) at h2
  refine ⟨fun x hx hxn => ⟨(h3 x hx hxn).1, (h3 x hx hxn).2.1⟩, fun x s hx hxn hs hs2 => ⟨fun hle => ?_, fun ⟨t, htb, hr⟩ => ?_⟩⟩
  · obtain ⟨c1, c2, c3⟩ := h3 x hx hxn
    obtain ⟨t, ht1, ht2⟩ := c3 (by change 0 ≤ getI (deadlinesL n p to b) x; omega)
    obtain ⟨t', ht1', ht2'⟩ := ht2.mono hw ⟨hs, hle⟩ c2 ⟨hx, hxn⟩
    exact ⟨t', by omega, ht2'⟩
  · have key : ∀ y t, Reach (waysL n p (-1)) (durHi p) x s y t → t ≤ getI (deadlinesL n p to b) y → s ≤ getI (deadlinesL n p to b) x := by
      intro y t hr
      induction hr with
      | refl => exact id
      | @step y t w hr hm hfe hle ih =>
        intro hle2
        obtain ⟨w1, w2, w3⟩ := hw w hm
        have w3 : okTime (durHi p w.2) := w3
        have hrg := hr.range hw ⟨hs, hs2⟩ ⟨hx, hxn⟩
        obtain ⟨c1, c2, _⟩ := h3 w.2.to w2.1 w2.2
        have h5 := (latest_iff (opens := w.2.opens) (t := t) (by omega) w3 c2 c1).2 hle2
        have h6 := h4 w hm
        change relaxD p (deadlinesL n p to b, false) w = (deadlinesL n p to b, false) at h6
        unfold relaxD at h6
        dsimp only at h6
        split at h6
        · exact absurd (congrArg Prod.snd h6) (by simp)
        · rename_i h7
          refine ih ?_
          rw [← hfe]
          change t ≤ latestF w.2.opens (wr (getI (deadlinesL n p to b) w.2.to - (spanW w.2 p).hi)) at h5
          omega
    exact key to t hr (by omega)

end
end Go.Ab
namespace Go.Ab
open Go.RowKit Go.Proofs
set_option maxHeartbeats 4000000
set_option maxRecDepth 20000
attribute [local irreducible] WalkL Walk

structure Fits (n : Net) (p : Party) (x : Trip) : Prop where
  net : n.Good
  party : p.Good
  few : n.places ≤ 6 ∧ n.paths.length ≤ 10
  frm : 0 ≤ x.frm ∧ x.frm < n.places
  to : 0 ≤ x.to ∧ x.to < n.places
  start : 0 ≤ x.start ∧ x.start ≤ 2880
  deadline : 0 ≤ x.deadline ∧ x.deadline ≤ 2880

theorem fits_of {n : Net} {p : Party} {x : Trip} (h : fitsB n p x = true) : Fits n p x := by
  unfold fitsB at h
  simp only [Bool.and_eq_true, beq_iff_eq, within_iff, Bool.not_eq_true'] at h
  obtain ⟨h1, h2, h3, h4, h5, h6⟩ := h
  obtain ⟨g1, g2⟩ := checkParty_iff.1 h2
  have hb : badNet n = false := by simpa using good_iff.2 g1
  unfold farB at h1
  rw [hb] at h1
  simp only [Bool.or_eq_false_iff, Bool.and_eq_false_iff, decide_eq_false_iff_not, Bool.not_false, reduceCtorEq, false_or] at h1
  exact ⟨g1, g2, by omega, by omega, by omega, h5, h6⟩

theorem map_getI (f : Int → Int) (l : List Int) (i : Int) (h : i.toNat < l.length) : getI (l.map f) i = f (getI l i) := by
  unfold getI; simp [h]

/-- The sure arrival is by the deadline just where the start is not after the latest one. -/
theorem comes_iff {n : Net} {p : Party} {frm to start deadline : Int} (hn : n.Good) (hp : p.Good) (hf : 0 ≤ frm ∧ frm < n.places) (ht : 0 ≤ to ∧ to < n.places) (hs : 0 ≤ start ∧ start ≤ 2880) (hd : 0 ≤ deadline ∧ deadline ≤ 2880) :
    getI (arrivalsL n p spanHi frm start (-1)) to ≤ deadline ↔ start ≤ getI (deadlinesL n p to deadline) frm := by
  have hv : never = 1073741824 := rfl
  obtain ⟨a1, a2⟩ := arr_spec (q := spanHi) (but := -1) (ways_ok hn hp (-1)).1 hf hs
  rw [(dead_spec hn hp ht hd).2 frm start hf.1 hf.2 hs.1 hs.2]
  constructor
  · intro h
    rcases a1 to ht.1 ht.2 with h1 | ⟨h1, h2, h3⟩
    · omega
    · exact ⟨_, h, h3⟩
  · rintro ⟨t, h1, h2⟩
    have := a2 to t h2
    omega

theorem told_iff {n : Net} {p : Party} {frm to start deadline : Int} (hn : n.Good) (hp : p.Good) (hf : 0 ≤ frm ∧ frm < n.places) (ht : 0 ≤ to ∧ to < n.places) (hs : 0 ≤ start ∧ start ≤ 2880) (hd : 0 ≤ deadline ∧ deadline ≤ 2880) :
    (0 ≤ told1 (getI (arrivalsL n p spanHi frm start (-1)) to) ∧ told1 (getI (arrivalsL n p spanHi frm start (-1)) to) ≤ deadline) ↔ getI (arrivalsL n p spanHi frm start (-1)) to ≤ deadline := by
  have hv : never = 1073741824 := rfl
  obtain ⟨a1, a2⟩ := arr_spec (q := spanHi) (but := -1) (ways_ok hn hp (-1)).1 hf hs
  unfold told1
  rcases a1 to ht.1 ht.2 with h1 | ⟨h1, h2, h3⟩
  · rw [h1, if_pos rfl]; omega
  · rw [if_neg (by omega)]; omega

theorem f7 (n : Net) (p : Party) (x : Trip) (hs : n.Small) : Fn Try.prog 7 [.agg n.cells, .agg p.cells, .agg x.row] (.bool true) := by
  have h20 := f20 n p x hs
  refine fn_walk 141 Try.call7 Try.func7 rfl (by decide) fun J => ?_
  simp (maxSteps := 4000000) only [go_sem, St.start, Try.ntmps7, Try.results7, Net.cells, Party.cells, Trip.row]
  by_cases hfit : fitsB n p x = true
  · have hf := fits_of hfit
    have hpl := hf.net.places
    have ho1 : openF n p [x.frm, x.to] [x.deadline] = 0 := open_iff.2 ⟨hf.net, hf.party, by simpa using ⟨hf.frm, hf.to⟩, by simpa using hf.deadline⟩
    have ho2 : openF n p [x.frm] [x.start] = 0 := open_iff.2 ⟨hf.net, hf.party, by simpa using hf.frm, by simpa using hf.start⟩
    have h18 := f18 n p x.frm x.to x.deadline hs
    have h21 := f21 n p x.frm x.start hs
    have e21 : arriveL n p x.frm x.start = ((arrivalsL n p spanHi x.frm x.start (-1)).map told1, (arrivalsL n p spanLo x.frm x.start (-1)).map told1, 0) := by rw [arriveL, if_pos ho2]
    rw [e21] at h21
    obtain ⟨arr, harr⟩ : ∃ arr, arr = arrivalsL n p spanHi x.frm x.start (-1) := ⟨_, rfl⟩
    obtain ⟨dl, hdl⟩ : ∃ dl, dl = getI (deadlinesL n p x.to x.deadline) x.frm := ⟨_, rfl⟩
    have hal : arr.length = n.places.toNat := by rw [harr, arrivals_len]
    have hcomes := (told_iff hf.net hf.party hf.frm hf.to hf.start hf.deadline).trans (comes_iff hf.net hf.party hf.frm hf.to hf.start hf.deadline)
    rw [← harr, ← hdl] at hcomes
    have e18 : latestL n p x.frm x.to x.deadline = if dl = -1 then (0, 3) else (dl, 0) := by rw [latestL, if_pos ho1, hdl]
    rw [e18] at h18
    rw [← harr] at h21
    have hto := hf.to
    have g1 : (intRows (arr.map told1))[x.to.toNat]? = some [.i (told1 (getI arr x.to))] := by
      rw [intRows_get hto.1 (by simp; omega), map_getI _ _ _ (by omega)]
    have hlen : ((arr.length : Int) != n.places) = false := by simp; omega
    obtain ⟨av, hav⟩ : ∃ av, av = told1 (getI arr x.to) := ⟨_, rfl⟩
    rw [← hav] at g1 hcomes
    have hdr := (dead_spec hf.net hf.party hf.to hf.deadline).1 x.frm hf.frm.1 hf.frm.2
    rw [← hdl] at hdr
    have hst := hf.start
    have hcb : (decide (av ≥ 0) && decide (av ≤ x.deadline)) = decide (x.start ≤ dl) := by
      by_cases h : x.start ≤ dl
      · have := hcomes.2 h; simp [h, this]
      · have h' := fun h1 => h (hcomes.1 h1)
        simp only [h, decide_false]
        by_cases h1 : av ≥ 0
        · have : ¬ av ≤ x.deadline := fun h2 => h' ⟨h1, h2⟩
          simp [this]
        · simp [h1]
    by_cases hd : dl = -1
    · rw [if_pos hd] at h18
      have hcf : decide (x.start ≤ dl) = false := by simp; omega
      repeat (first | refine walkL_seq ?_ | refine walkL_skip ?_ | refine walkL_block ?_ | (refine walkL_region fun K hK => ?_; simp (maxSteps := 4000000) only [go_sem, hfit]; (repeat (first | (refine ⟨_, .lent (hf := h20) (hd := rfl) (hr := rfl), ?_⟩; simp (maxSteps := 4000000) only [go_sem, hfit]) | (refine ⟨_, .given (hf := h20) (hd := rfl) (ha := rfl), ?_⟩; simp (maxSteps := 4000000) only [go_sem, hfit]))); refine hK _ ?_; clear hK K) | refine walkL_nil ?_ | refine walkL_ret ?_ | refine walkL_exit ?_ | refine blockA_here ?_ | refine blockA_other rfl ?_ | refine blockA_ret ?_ | refine blockA_normal ?_ | refine thenA_ret ?_ | refine thenA_exit ?_ | refine thenA_normal ?_)
      refine walkL_false rfl ?_
      repeat (first | refine walkL_seq ?_ | refine walkL_skip ?_ | refine walkL_block ?_ | (refine walkL_region fun K hK => ?_; simp (maxSteps := 4000000) only [go_sem, intRows_len, hlen]; (repeat (first | (refine ⟨_, .lent (hf := h18) (hd := rfl) (hr := rfl), ?_⟩; simp (maxSteps := 4000000) only [go_sem, intRows_len, hlen]) | (refine ⟨_, .lent (hf := h21) (hd := rfl) (hr := rfl), ?_⟩; simp (maxSteps := 4000000) only [go_sem, intRows_len, hlen]) | (refine ⟨_, .given (hf := h18) (hd := rfl) (ha := rfl), ?_⟩; simp (maxSteps := 4000000) only [go_sem, intRows_len, hlen]) | (refine ⟨_, .given (hf := h21) (hd := rfl) (ha := rfl), ?_⟩; simp (maxSteps := 4000000) only [go_sem, intRows_len, hlen]))); refine hK _ ?_; clear hK K) | refine walkL_nil ?_ | refine walkL_ret ?_ | refine walkL_exit ?_ | refine blockA_here ?_ | refine blockA_other rfl ?_ | refine blockA_ret ?_ | refine blockA_normal ?_ | refine thenA_ret ?_ | refine thenA_exit ?_ | refine thenA_normal ?_)
      refine walkL_false rfl ?_
      repeat (first | refine walkL_seq ?_ | refine walkL_skip ?_ | refine walkL_nil ?_ | refine walkL_ret ?_ | refine walkL_exit ?_ | refine blockA_here ?_ | refine blockA_other rfl ?_ | refine blockA_ret ?_ | refine blockA_normal ?_ | refine thenA_ret ?_ | refine thenA_exit ?_ | refine thenA_normal ?_)
      refine walkL_meetS [(12, .d (.bool (decide (x.start ≤ dl))))] [] ?_ ?_
      · refine walkL_drawn (by kernel_rfl) (by kernel_rfl) fun K hK => ?_
        simp (maxSteps := 4000000) only [go_sem, g1, hto.1]
        by_cases ho0 : (decide (av ≥ 0)) = true
        · simp (maxSteps := 4000000) only [go_sem, g1, hto.1, ho0]
          refine ⟨by kernel_rfl, hK _ ?_⟩
          clear hK K
          refine walkL_nil ?_
          refine thenA_normal ?_
          refine ⟨rfl, ?_⟩
          rw [show (decide (x.start ≤ dl)) = (decide (av ≤ x.deadline)) from by simp [← hcb, ho0]]
          simp (maxSteps := 4000000) only [go_sem]
          refine weak_of [] ?_ ?_ rfl rfl <;> simp [lessT, lessM, lessB, AV.less]
        · simp (maxSteps := 4000000) only [go_sem, g1, hto.1, ho0]
          refine ⟨by kernel_rfl, hK _ ?_⟩
          clear hK K
          refine walkL_nil ?_
          refine thenA_normal ?_
          refine ⟨rfl, ?_⟩
          rw [show (decide (x.start ≤ dl)) = (false) from by simp [← hcb, ho0]]
          simp (maxSteps := 4000000) only [go_sem]
          refine weak_of [] ?_ ?_ rfl rfl <;> simp [lessT, lessM, lessB, AV.less]
      simp (maxSteps := 4000000) only [go_sem]
      repeat (first | refine walkL_seq ?_ | refine walkL_skip ?_ | refine walkL_block ?_ | (refine walkL_region fun K hK => ?_; simp (maxSteps := 4000000) only [go_sem]; refine hK _ ?_; clear hK K) | refine walkL_nil ?_ | refine walkL_ret ?_ | refine walkL_exit ?_ | refine blockA_here ?_ | refine blockA_other rfl ?_ | refine blockA_ret ?_ | refine blockA_normal ?_ | refine thenA_ret ?_ | refine thenA_exit ?_ | refine thenA_normal ?_)
      refine walkL_true rfl ?_
      repeat (first | refine walkL_seq ?_ | refine walkL_skip ?_ | refine walkL_block ?_ | (refine walkL_region fun K hK => ?_; simp (maxSteps := 4000000) only [go_sem, hcf]; (repeat (first | (refine ⟨_, .lent (hf := f13) (hd := rfl) (hr := rfl), ?_⟩; simp (maxSteps := 4000000) only [go_sem, hcf]) | (refine ⟨_, .given (hf := f13) (hd := rfl) (ha := rfl), ?_⟩; simp (maxSteps := 4000000) only [go_sem, hcf]))); refine hK _ ?_; clear hK K) | refine walkL_nil ?_ | refine walkL_ret ?_ | refine walkL_exit ?_ | refine blockA_here ?_ | refine blockA_other rfl ?_ | refine blockA_ret ?_ | refine blockA_normal ?_ | refine thenA_ret ?_ | refine thenA_exit ?_ | refine thenA_normal ?_)
      simp (maxSteps := 4000000) only [go_sem]
    · rw [if_neg hd] at h18
      have hd0 : 0 ≤ dl := by omega
      have ho3 : openF n p [x.frm] [dl] = 0 := open_iff.2 ⟨hf.net, hf.party, by simpa using hf.frm, by simpa using ⟨hd0, hdr.2⟩⟩
      have h21' := f21 n p x.frm dl hs
      have e21' : arriveL n p x.frm dl = ((arrivalsL n p spanHi x.frm dl (-1)).map told1, (arrivalsL n p spanLo x.frm dl (-1)).map told1, 0) := by rw [arriveL, if_pos ho3]
      rw [e21'] at h21'
      obtain ⟨own, hown⟩ : ∃ own, own = arrivalsL n p spanHi x.frm dl (-1) := ⟨_, rfl⟩
      have hol : own.length = n.places.toNat := by rw [hown, arrivals_len]
      have hcomes' := (told_iff hf.net hf.party hf.frm hf.to ⟨hd0, hdr.2⟩ hf.deadline).trans (comes_iff hf.net hf.party hf.frm hf.to ⟨hd0, hdr.2⟩ hf.deadline)
      rw [← hown, ← hdl] at hcomes'
      rw [← hown] at h21'
      have hc1 := (hcomes'.2 (Int.le_refl _)).1
      have hc2 := (hcomes'.2 (Int.le_refl _)).2
      have g2 : (intRows (own.map told1))[x.to.toNat]? = some [.i (told1 (getI own x.to))] := by
        rw [intRows_get hto.1 (by simp; omega), map_getI _ _ _ (by omega)]
      obtain ⟨ov, hov⟩ : ∃ ov, ov = told1 (getI own x.to) := ⟨_, rfl⟩
      rw [← hov] at g2 hc1 hc2
      have hlen' : ((own.length : Int) == n.places) = true := by simp; omega
      have hdd : dl ≤ x.deadline := by
        obtain ⟨t, ht1, ht2⟩ := ((dead_spec hf.net hf.party hf.to hf.deadline).2 x.frm dl hf.frm.1 hf.frm.2 hd0 hdr.2).1 (by rw [hdl]; exact Int.le_refl _)
        have := ht2.range (ways_ok hf.net hf.party (-1)).1 ⟨hd0, hdr.2⟩ hf.frm
        omega
      have hn1 : decide (dl < 0) = false := by simp; omega
      have hn2 : decide (dl > x.deadline) = false := by simp; omega
      have hn3 : ((decide (x.start ≤ dl)) != (decide (x.start ≤ dl))) = false := by simp
      repeat (first | refine walkL_seq ?_ | refine walkL_skip ?_ | refine walkL_block ?_ | (refine walkL_region fun K hK => ?_; simp (maxSteps := 4000000) only [go_sem, hfit]; (repeat (first | (refine ⟨_, .lent (hf := h20) (hd := rfl) (hr := rfl), ?_⟩; simp (maxSteps := 4000000) only [go_sem, hfit]) | (refine ⟨_, .given (hf := h20) (hd := rfl) (ha := rfl), ?_⟩; simp (maxSteps := 4000000) only [go_sem, hfit]))); refine hK _ ?_; clear hK K) | refine walkL_nil ?_ | refine walkL_ret ?_ | refine walkL_exit ?_ | refine blockA_here ?_ | refine blockA_other rfl ?_ | refine blockA_ret ?_ | refine blockA_normal ?_ | refine thenA_ret ?_ | refine thenA_exit ?_ | refine thenA_normal ?_)
      refine walkL_false rfl ?_
      repeat (first | refine walkL_seq ?_ | refine walkL_skip ?_ | refine walkL_block ?_ | (refine walkL_region fun K hK => ?_; simp (maxSteps := 4000000) only [go_sem, intRows_len, hlen]; (repeat (first | (refine ⟨_, .lent (hf := h18) (hd := rfl) (hr := rfl), ?_⟩; simp (maxSteps := 4000000) only [go_sem, intRows_len, hlen]) | (refine ⟨_, .lent (hf := h21) (hd := rfl) (hr := rfl), ?_⟩; simp (maxSteps := 4000000) only [go_sem, intRows_len, hlen]) | (refine ⟨_, .given (hf := h18) (hd := rfl) (ha := rfl), ?_⟩; simp (maxSteps := 4000000) only [go_sem, intRows_len, hlen]) | (refine ⟨_, .given (hf := h21) (hd := rfl) (ha := rfl), ?_⟩; simp (maxSteps := 4000000) only [go_sem, intRows_len, hlen]))); refine hK _ ?_; clear hK K) | refine walkL_nil ?_ | refine walkL_ret ?_ | refine walkL_exit ?_ | refine blockA_here ?_ | refine blockA_other rfl ?_ | refine blockA_ret ?_ | refine blockA_normal ?_ | refine thenA_ret ?_ | refine thenA_exit ?_ | refine thenA_normal ?_)
      refine walkL_false rfl ?_
      repeat (first | refine walkL_seq ?_ | refine walkL_skip ?_ | refine walkL_nil ?_ | refine walkL_ret ?_ | refine walkL_exit ?_ | refine blockA_here ?_ | refine blockA_other rfl ?_ | refine blockA_ret ?_ | refine blockA_normal ?_ | refine thenA_ret ?_ | refine thenA_exit ?_ | refine thenA_normal ?_)
      refine walkL_meetS [(12, .d (.bool (decide (x.start ≤ dl))))] [] ?_ ?_
      · refine walkL_drawn (by kernel_rfl) (by kernel_rfl) fun K hK => ?_
        simp (maxSteps := 4000000) only [go_sem, g1, hto.1]
        by_cases ho0 : (decide (av ≥ 0)) = true
        · simp (maxSteps := 4000000) only [go_sem, g1, hto.1, ho0]
          refine ⟨by kernel_rfl, hK _ ?_⟩
          clear hK K
          refine walkL_nil ?_
          refine thenA_normal ?_
          refine ⟨rfl, ?_⟩
          rw [show (decide (x.start ≤ dl)) = (decide (av ≤ x.deadline)) from by simp [← hcb, ho0]]
          simp (maxSteps := 4000000) only [go_sem]
          refine weak_of [] ?_ ?_ rfl rfl <;> simp [lessT, lessM, lessB, AV.less]
        · simp (maxSteps := 4000000) only [go_sem, g1, hto.1, ho0]
          refine ⟨by kernel_rfl, hK _ ?_⟩
          clear hK K
          refine walkL_nil ?_
          refine thenA_normal ?_
          refine ⟨rfl, ?_⟩
          rw [show (decide (x.start ≤ dl)) = (false) from by simp [← hcb, ho0]]
          simp (maxSteps := 4000000) only [go_sem]
          refine weak_of [] ?_ ?_ rfl rfl <;> simp [lessT, lessM, lessB, AV.less]
      simp (maxSteps := 4000000) only [go_sem]
      repeat (first | refine walkL_seq ?_ | refine walkL_skip ?_ | refine walkL_block ?_ | (refine walkL_region fun K hK => ?_; simp (maxSteps := 4000000) only [go_sem]; refine hK _ ?_; clear hK K) | refine walkL_nil ?_ | refine walkL_ret ?_ | refine walkL_exit ?_ | refine blockA_here ?_ | refine blockA_other rfl ?_ | refine blockA_ret ?_ | refine blockA_normal ?_ | refine thenA_ret ?_ | refine thenA_exit ?_ | refine thenA_normal ?_)
      refine walkL_false rfl ?_
      repeat (first | refine walkL_seq ?_ | refine walkL_skip ?_ | refine walkL_block ?_ | (refine walkL_region fun K hK => ?_; simp (maxSteps := 4000000) only [go_sem, hn1, hn2, hn3]; refine hK _ ?_; clear hK K) | refine walkL_nil ?_ | refine walkL_ret ?_ | refine walkL_exit ?_ | refine blockA_here ?_ | refine blockA_other rfl ?_ | refine blockA_ret ?_ | refine blockA_normal ?_ | refine thenA_ret ?_ | refine thenA_exit ?_ | refine thenA_normal ?_)
      refine walkL_false rfl ?_
      have hm1 : decide (ov ≥ 0) = true := by simpa using hc1
      have hm2 : decide (ov ≤ x.deadline) = true := by simpa using hc2
      repeat (first | refine walkL_seq ?_ | refine walkL_skip ?_ | refine walkL_block ?_ | (refine walkL_region fun K hK => ?_; simp (maxSteps := 4000000) only [go_sem]; (repeat (first | (refine ⟨_, .lent (hf := h21') (hd := rfl) (hr := rfl), ?_⟩; simp (maxSteps := 4000000) only [go_sem]) | (refine ⟨_, .given (hf := h21') (hd := rfl) (ha := rfl), ?_⟩; simp (maxSteps := 4000000) only [go_sem]))); refine hK _ ?_; clear hK K) | refine walkL_nil ?_ | refine walkL_ret ?_ | refine walkL_exit ?_ | refine blockA_here ?_ | refine blockA_other rfl ?_ | refine blockA_ret ?_ | refine blockA_normal ?_ | refine thenA_ret ?_ | refine thenA_exit ?_ | refine thenA_normal ?_)
      refine walkL_drawn (by kernel_rfl) (by kernel_rfl) fun K hK => ?_
      simp (maxSteps := 4000000) only [go_sem, intRows_len, hlen', g2, hto.1, hm1, hm2]
      refine ⟨_, .fn (hf := f13) (hd := rfl) (hr := .inl rfl), ?_⟩
      simp (maxSteps := 4000000) only [go_sem]
      refine ⟨by kernel_rfl, hK _ ?_⟩
      clear hK K
      repeat (first | refine walkL_seq ?_ | refine walkL_skip ?_ | refine walkL_block ?_ | (refine walkL_region fun K hK => ?_; simp (maxSteps := 4000000) only [go_sem]; refine hK _ ?_; clear hK K) | refine walkL_nil ?_ | refine walkL_ret ?_ | refine walkL_exit ?_ | refine blockA_here ?_ | refine blockA_other rfl ?_ | refine blockA_ret ?_ | refine blockA_normal ?_ | refine thenA_ret ?_ | refine thenA_exit ?_ | refine thenA_normal ?_)
      simp (maxSteps := 4000000) only [go_sem]
  · repeat (first | refine walkL_seq ?_ | refine walkL_skip ?_ | refine walkL_block ?_ | (refine walkL_region fun K hK => ?_; simp (maxSteps := 4000000) only [go_sem, hfit]; (repeat (first | (refine ⟨_, .lent (hf := h20) (hd := rfl) (hr := rfl), ?_⟩; simp (maxSteps := 4000000) only [go_sem, hfit]) | (refine ⟨_, .given (hf := h20) (hd := rfl) (ha := rfl), ?_⟩; simp (maxSteps := 4000000) only [go_sem, hfit]))); refine hK _ ?_; clear hK K) | refine walkL_nil ?_ | refine walkL_ret ?_ | refine walkL_exit ?_ | refine blockA_here ?_ | refine blockA_other rfl ?_ | refine blockA_ret ?_ | refine blockA_normal ?_ | refine thenA_ret ?_ | refine thenA_exit ?_ | refine thenA_normal ?_)
    refine walkL_true rfl ?_
    repeat (first | refine walkL_seq ?_ | refine walkL_skip ?_ | refine walkL_block ?_ | (refine walkL_region fun K hK => ?_; simp (maxSteps := 4000000) only [go_sem]; (repeat (first | (refine ⟨_, .lent (hf := f13) (hd := rfl) (hr := rfl), ?_⟩; simp (maxSteps := 4000000) only [go_sem]) | (refine ⟨_, .given (hf := f13) (hd := rfl) (ha := rfl), ?_⟩; simp (maxSteps := 4000000) only [go_sem]))); refine hK _ ?_; clear hK K) | refine walkL_nil ?_ | refine walkL_ret ?_ | refine walkL_exit ?_ | refine blockA_here ?_ | refine blockA_other rfl ?_ | refine blockA_ret ?_ | refine blockA_normal ?_ | refine thenA_ret ?_ | refine thenA_exit ?_ | refine thenA_normal ?_)
    simp (maxSteps := 4000000) only [go_sem]
end Go.Ab
namespace Go.Ab
open Go.RowKit

/-! ### What is handed to a program, as deep values -/

/-- What a cell holds. -/
inductive Sh where
  | int (k : IntKind)
  | bool
  | sl (row : List Sh)

mutual
/-- A value of this form, no slice in it longer than N. -/
def Sh.fits (N : Nat) : Sh → DV → Prop
  | .int k, d => ∃ n, d = .int k n ∧ (Lit.int k n).wf = true
  | .bool, d => ∃ b, d = .bool b
  | .sl r, d => ∃ rows, d = .sl rows ∧ rows.length ≤ N ∧ ∀ row ∈ rows, Sh.fitsL N r row
def Sh.fitsL (N : Nat) : List Sh → List DV → Prop
  | [], ds => ds = []
  | s :: ss, ds => ∃ d r, ds = d :: r ∧ Sh.fits N s d ∧ Sh.fitsL N ss r
end

theorem Sh.fitsL_len {N : Nat} : ∀ {ss : List Sh} {ds : List DV}, Sh.fitsL N ss ds → ds.length = ss.length
  | [], _, h => by simp only [Sh.fitsL] at h; subst h; rfl
  | s :: ss, ds, h => by
    simp only [Sh.fitsL] at h
    obtain ⟨d, r, rfl, _, h⟩ := h
    simp [Sh.fitsL_len h]

theorem Sh.fitsL_append {N : Nat} : ∀ {ss ts : List Sh} {ds es : List DV}, Sh.fitsL N ss ds → Sh.fitsL N ts es → Sh.fitsL N (ss ++ ts) (ds ++ es)
  | [], _, _, _, h, k => by simp only [Sh.fitsL] at h; subst h; simpa using k
  | s :: ss, ts, ds, es, h, k => by
    simp only [Sh.fitsL] at h
    obtain ⟨d, r, rfl, hd, h⟩ := h
    simp only [List.cons_append, Sh.fitsL]
    exact ⟨d, r ++ es, rfl, hd, Sh.fitsL_append h k⟩

/-- The cells of a struct's fields, laid without gaps. -/
def shapesF (P : Program) (g : TypeId → Option (List Sh)) : List Field → Nat → Option (List Sh)
  | [], _ => some []
  | f :: fs, o => if f.offset = o then (g f.type).bind fun r => if P.cellsOf f.type = r.length then (shapesF P g fs (o + r.length)).map fun s => r ++ s else none else none

/-- The cells of a type that is made of integers, bools, slices and structs without gaps. -/
def shapes (P : Program) : Nat → TypeId → Option (List Sh)
  | 0, _ => none
  | n + 1, t => match P.underlying t with
    | some .bool => some [.bool]
    | some (.int k) => some [.int k]
    | some (.slice e) => (shapes P n e).bind fun r => if P.cellsOf e = r.length ∧ 0 < r.length then some [.sl r] else none
    | some (.struct fs) => (shapesF P (shapes P n) fs.toList 0).bind fun r => if P.cellsOf t = r.length then some r else none
    | _ => none

/-- A size of what is read. -/
structure BulkOk {H : Type} (b : DataW H → Nat) : Prop where
  slice : ∀ elems spare, elems.length ≤ b (.slice elems spare)
  elem : ∀ elems spare, ∀ d ∈ elems, b d ≤ b (.slice elems spare)
  part : ∀ parts, ∀ d ∈ parts, b d ≤ b (.agg parts)

/-- Cells that stand for these deep values. -/
def Reads (w : World) (ds : List DV) (cs : List Value) : Prop :=
  ∀ (i : Nat) d v, ds[i]? = some d → cs[i]? = some v → v.oneCell' = true ∧ DRel w (fun _ => False) d v

section
variable {H : Type} {enc : TypeId × Value → H} {P : Program} {w : World} {sp : Nat → Bool} {held : Bool}

theorem readF {b : DataW H → Nat} {N : Nat} {g : TypeId → Option (List Sh)} {m : Nat} {cs : List Value}
    (hg : ∀ (t : TypeId) sh, g t = some sh → ∀ cs d ps, DataW.trod enc P w 0 sp held m t cs = some (d, ps) → b d ≤ N → cs.length = sh.length ∧ ∃ ds, Sh.fitsL N sh ds ∧ Reads w ds cs) :
    ∀ (fs : List Field) (xs : List (DataW H × List MemPlace)) (o : Nat) (sh : List Sh), shapesF P g fs o = some sh → xs.length = fs.length →
      (∀ (i : Nat) (f : Field), fs[i]? = some f → DataW.trod enc P w 0 sp held m f.type ((cs.drop f.offset).take (P.cellsOf f.type)) = xs[i]?) → (∀ x ∈ xs, b x.1 ≤ N) →
      ∃ ds, Sh.fitsL N sh ds ∧ Reads w ds (cs.drop o)
  | [], xs, o, sh, h, hl, _, _ => by
    simp only [shapesF, Option.some.injEq] at h
    subst h
    exact ⟨[], by simp [Sh.fitsL], fun i d v h => by simp at h⟩
  | f :: fs, xs, o, sh, h, hl, hx, hb => by
    simp only [shapesF] at h
    split at h
    case isFalse => cases h
    case isTrue ho =>
    obtain ⟨r, hr, h⟩ := Option.bind_eq_some_iff.1 h
    split at h
    case isFalse => cases h
    case isTrue hc =>
    obtain ⟨s, hs, rfl⟩ := Option.map_eq_some_iff.1 h
    cases xs with
    | nil => simp at hl
    | cons x xs =>
      have h0 := hx 0 f rfl
      rw [List.getElem?_cons_zero] at h0
      obtain ⟨hlen, ds, hf, hd⟩ := hg _ _ hr _ x.1 x.2 h0 (hb x (by simp))
      obtain ⟨es, he, hd'⟩ := readF hg fs xs (o + r.length) s hs (by simpa using hl) (fun i f' hf' => by simpa using hx (i + 1) f' (by simpa using hf')) (fun y hy => hb y (by simp [hy]))
      have hdl := Sh.fitsL_len hf
      refine ⟨ds ++ es, Sh.fitsL_append hf he, fun i d v h1 h2 => ?_⟩
      rw [List.getElem?_drop] at h2
      rcases Nat.lt_or_ge i ds.length with hi | hi
      · rw [List.getElem?_append_left hi] at h1
        refine hd i d v h1 ?_
        rw [List.getElem?_take, List.getElem?_drop, ho, if_pos (by omega), h2]
      · rw [List.getElem?_append_right hi] at h1
        refine hd' (i - ds.length) d v h1 ?_
        rw [List.getElem?_drop]
        rw [show o + r.length + (i - ds.length) = o + i from by omega, h2]

theorem cells_get {w : World} {a : Addr} {n : Nat} {cs : List Value} (h : w.cells? 0 a n = some cs) : cs.length = n ∧ ∀ j, j < n → w.cell? (a.add j) = cs[j]? := by
  simp only [World.cells?, Nat.zero_le, if_true] at h
  exact ⟨by simpa using mapM_some_length h, fun j hj => mapM_some_get h j j (by simp [hj])⟩

theorem cell_spot {w : World} {a : Addr} {v : Value} (h : w.cell? a = some v) : a.spot = none := by
  unfold World.cell? at h
  split at h
  · split at h
    · cases h
    · cases hs : a.spot <;> simp_all
  · cases h

theorem trod_read {b : DataW H → Nat} (hb : BulkOk b) (N : Nat) : ∀ (n : Nat) (t : TypeId) (sh : List Sh), shapes P n t = some sh → ∀ fuel cs d ps, DataW.trod enc P w 0 sp held fuel t cs = some (d, ps) → b d ≤ N →
    cs.length = sh.length ∧ ∃ ds, Sh.fitsL N sh ds ∧ Reads w ds cs
  | 0, _, _, h => by simp [shapes] at h
  | n + 1, t, sh, h => by
    intro fuel cs d ps hd hN
    unfold shapes at h
    split at h
    case h_1 ht =>
      cases h
      obtain ⟨v, rfl, _⟩ := DataW.trod_bool ht hd
      refine ⟨rfl, [.bool v], ?_, ?_⟩
      · simp [Sh.fitsL, Sh.fits]
      · intro i d' v' h1 h2
        cases i with
        | zero => simp only [List.getElem?_cons_zero, Option.some.injEq] at h1 h2; subst h1; subst h2; exact ⟨rfl, .bool _⟩
        | succ i => simp at h1
    case h_2 k ht =>
      cases h
      obtain ⟨v, rfl, _, hw⟩ := DataW.trod_int ht hd
      refine ⟨rfl, [.int k v], ?_, ?_⟩
      · simpa [Sh.fitsL, Sh.fits] using hw
      · intro i d' v' h1 h2
        cases i with
        | zero => simp only [List.getElem?_cons_zero, Option.some.injEq] at h1 h2; subst h1; subst h2; exact ⟨rfl, .int _ _⟩
        | succ i => simp at h1
    case h_3 e ht =>
      obtain ⟨r, hr, h⟩ := Option.bind_eq_some_iff.1 h
      split at h
      case isFalse => cases h
      case isTrue hc =>
      obtain ⟨hc, hp⟩ := hc
      cases h
      rcases DataW.trod_slice ht hd with ⟨rfl, _⟩ | ⟨a, len, cap, elems, rest, m, rfl, rfl, hx, _, hcap, _, hl, hel, _⟩
      · refine ⟨rfl, [.sl []], ?_, ?_⟩
        · simp [Sh.fitsL, Sh.fits]
        · intro i d' v' h1 h2
          cases i with
          | zero => simp only [List.getElem?_cons_zero, Option.some.injEq] at h1 h2; subst h1; subst h2; exact ⟨rfl, .slNil⟩
          | succ i => simp at h1
      · obtain rfl : d = .slice (elems.map (·.1)) (rest.map (·.1)) := congrArg Prod.fst hx
        have hrow : ∀ i : Nat, ∃ ds : List DV, i < len → Sh.fitsL N r ds ∧ ∀ j d, ds[j]? = some d → ∃ v, w.cell? (a.add (i * r.length) |>.add j) = some v ∧ v.oneCell' = true ∧ DRel w (fun _ => False) d v := by
          intro i
          by_cases hi : i < len
          · have h1 := hel i hi
            rw [List.getElem?_eq_getElem (by omega)] at h1
            obtain ⟨cs', hcs, htr⟩ := Option.bind_eq_some_iff.1 h1
            have hin : (elems[i]'(by omega)).1 ∈ elems.map (·.1) := List.mem_map.2 ⟨_, List.getElem_mem _, rfl⟩
            obtain ⟨hlen, ds, hf, hds⟩ := trod_read hb N n e r hr m cs' (elems[i]'(by omega)).1 (elems[i]'(by omega)).2 htr (Nat.le_trans (hb.elem _ _ _ hin) hN)
            refine ⟨ds, fun _ => ⟨hf, fun j d hj => ?_⟩⟩
            have hjl : j < ds.length := by
              rcases Nat.lt_or_ge j ds.length with h | h
              · exact h
              · rw [List.getElem?_eq_none h] at hj; cases hj
            rw [Sh.fitsL_len hf] at hjl
            have hcell := (cells_get hcs).2 j (by omega)
            rw [hc] at hcell
            have hv : cs'[j]? = some (cs'[j]'(by omega)) := List.getElem?_eq_getElem _
            rw [hv] at hcell
            exact ⟨_, hcell, hds j d _ hj hv⟩
          · exact ⟨[], fun h => absurd h hi⟩
        have hcho := Classical.axiomOfChoice hrow
        obtain ⟨F, hF⟩ := hcho
        have hrl : ((List.range len).map F).length = len := by simp
        refine ⟨rfl, [.sl ((List.range len).map F)], ?_, ?_⟩
        · simp only [Sh.fitsL, Sh.fits]
          refine ⟨_, _, rfl, ⟨_, rfl, ?_, ?_⟩, rfl⟩
          · rw [hrl]
            have := hb.slice (elems.map (·.1)) (rest.map (·.1))
            simp only [List.length_map] at this
            omega
          · intro row hrow
            obtain ⟨i, hi, rfl⟩ := List.mem_map.1 hrow
            exact (hF i (by simpa using hi)).1
        · intro i d' v' h1 h2
          cases i with
          | succ i => simp at h1
          | zero =>
            simp only [List.getElem?_cons_zero, Option.some.injEq] at h1 h2
            subst h1; subst h2
            refine ⟨rfl, ?_⟩
            cases hlen : len with
            | zero => exact .slEmpty _ _
            | succ l =>
              have hspot : a.spot = none := by
                have h0 := hF 0 (by omega)
                have hfl := Sh.fitsL_len h0.1
                obtain ⟨v, hv, _⟩ := h0.2 0 ((F 0)[0]'(by omega)) (List.getElem?_eq_getElem _)
                simp only [Nat.zero_mul, Addr.add, if_true] at hv
                exact cell_spot hv
              obtain ⟨blk, off, spot⟩ := a
              simp only at hspot
              subst hspot
              have hadd : ∀ i j, (Addr.add (Addr.add ⟨blk, off, none⟩ (i * r.length)) j) = ⟨blk, off + i * r.length + j, none⟩ := by
                intro i j
                unfold Addr.add
                by_cases h1 : i * r.length = 0 <;> by_cases h2 : j = 0 <;> simp [h1, h2]
              have hall : ∀ (i : Nat) (r' : List DV) (j : Nat) (d : DV), ((List.range len).map F)[i]? = some r' → r'[j]? = some d → ∃ v, w.cell? ⟨blk, off + i * r.length + j, none⟩ = some v ∧ v.oneCell' = true ∧ DRel w (fun _ => False) d v := by
                intro i r' j d h1 h2
                rw [List.getElem?_map] at h1
                obtain ⟨i', hi', rfl⟩ := Option.map_eq_some_iff.1 h1
                obtain ⟨hil, rfl⟩ := List.getElem?_eq_some_iff.1 hi'
                simp only [List.length_range] at hil
                simp only [List.getElem_range] at h2
                obtain ⟨v, hv, h3, h4⟩ := (hF i hil).2 j d h2
                rw [hadd] at hv
                exact ⟨v, hv, h3, h4⟩
              have hfin := DRel.sl (w := w) (own := fun _ => False) ((List.range len).map F) blk off r.length cap (fun i j => (w.cell? ⟨blk, off + i * r.length + j, none⟩).getD .nilFunc) (by rw [hrl]; exact hcap)
                (by
                  intro row hrow
                  obtain ⟨i, hi, rfl⟩ := List.mem_map.1 hrow
                  exact Sh.fitsL_len (hF i (by simpa using hi)).1)
                (by
                  intro i r' j d h1 h2
                  obtain ⟨v, hv, h3, _⟩ := hall i r' j d h1 h2
                  rw [hv]
                  exact ⟨fun h => h, rfl, h3⟩)
                (by
                  intro i r' j d h1 h2
                  obtain ⟨v, hv, _, h4⟩ := hall i r' j d h1 h2
                  simp only [hv, Option.getD_some]
                  exact h4)
              rw [hrl] at hfin
              rw [hlen] at hfin
              exact hfin
    case h_4 fs ht =>
      obtain ⟨r, hr, h⟩ := Option.bind_eq_some_iff.1 h
      split at h
      case isFalse => cases h
      case isTrue hc =>
      cases h
      obtain ⟨xs, m, rfl, hx, hl, hxl, hi⟩ := DataW.trod_struct ht hd
      obtain rfl : d = .agg (xs.map (·.1)) := congrArg Prod.fst hx
      obtain ⟨ds, hf, hds⟩ := readF (fun t sh h cs d ps hd hN => trod_read hb N n t sh h m cs d ps hd hN) fs.toList xs 0 sh hr (by simpa using hxl) (fun i f hf => hi i f (by simpa using hf))
        (fun x hx => Nat.le_trans (hb.part _ _ (List.mem_map.2 ⟨x, hx, rfl⟩)) hN)
      exact ⟨by omega, ds, hf, by simpa using hds⟩
    case h_5 => cases h
end
end Go.Ab
/- The link from a walked contract to a statement's contract, for a statement of three arguments: Net, Party, Trip; where what is read is of bulk at most the bound. -/
namespace Go.Ab
open Go.RowKit Go.Proofs Go.ChangeShapes Go.Proofs.Ytldnaopmkgikkaa
set_option linter.unusedVariables false
set_option maxRecDepth 100000

section
variable {H : Type} {enc : TypeId × Value → H} {P : Program}
/-- The world grew, and nothing that was there has turned: the post-condition of a statement that changes nothing. -/
theorem post_of_below {f : Func} {s : ChangeSpec} {apart fresh handsOn again : Bool} {W W' : World} {args : Array Value} {v : Value} {ds gs : List (DataW H)} {before pa pv : List MemPlace}
    (hW : DataW.Whole enc P f.params.toList s.vars apart W args.toList ds gs before)
    (hres : ∀ (b : Nat) (sp : Nat → Bool) (hd : Bool), DataW.TrodAll enc P W' b sp hd f.resultTypes.toList (v.resultList f.resultTypes.size) (s.fn H (ds ++ gs)).results [])
    (hargs : ∀ sp : Nat → Bool, (∀ p ∈ before, sp p.block = true) → DataW.TrodAll enc P W' 0 sp true f.params.toList args.toList (s.fn H (ds ++ gs)).args pa)
    (hvars : ∀ sp : Nat → Bool, (∀ p ∈ before, sp p.block = true) → DataW.TrodVars enc P W' sp s.vars (s.fn H (ds ++ gs)).vars pv)
    (hps : before = pa ++ pv) (hb : Below W.heap.size W W')
    (hok : ∀ (j : Nat) (t : TypeId) (r : Value), f.resultTypes[j]? = some t → (v.resultList f.resultTypes.size)[j]? = some r → Value.okWide P W' .any 0 t r) :
    s.post enc P f apart fresh handsOn again W args v W' := by
  have hlt := hW.lt
  have hold : ∀ p ∈ before, (fun b => decide (b < W.heap.size)) p.block = true := fun p hp => by simpa using hlt p hp
  refine ⟨ds, gs, before, [], pa, pv, hW, hres _ _ _, hargs _ hold, hvars _ hold, World.keptBut_mono (fun p hp => ⟨hp, ?_⟩) (hb.frame (· ∈ before)), fun _ => ?_⟩
  · rw [hps, List.mem_append] at hp
    exact Or.inr hp
  · obtain ⟨_, _, _, _, _, hz, hn⟩ := hW
    refine ⟨hok, _, _, ([] ++ pa) ++ pv, ⟨[] ++ pa, pv, trodAll_append (hargs _ (fun _ _ => rfl)) (hres _ _ _), hvars _ (fun _ _ => rfl), rfl, ?_, ?_⟩, ?_⟩
    · intro b off hp
      have hp' : MemPlace.cell b off ∈ before := by rw [hps]; simpa using hp
      rw [hb.frozen (p := ⟨b, off, none⟩) (hlt _ hp')]
      exact hz b off hp'
    · intro ha
      have := hn ha
      rw [hps] at this
      simpa using this
    · intro p hp _
      rw [hps]
      simpa using hp
end

/-- Rows of this form are rows of values. -/
theorem rows_of {α : Type} {row : α → List DV} {Q : α → Prop} : ∀ {rows : List (List DV)}, (∀ r ∈ rows, ∃ a, r = row a ∧ Q a) → ∃ l : List α, rows = l.map row ∧ ∀ a ∈ l, Q a
  | [], _ => ⟨[], rfl, fun _ h => by cases h⟩
  | r :: rs, h => by
    obtain ⟨a, rfl, ha⟩ := h r (by simp)
    obtain ⟨l, rfl, hl⟩ := rows_of (rows := rs) (fun r hr => h r (by simp [hr]))
    exact ⟨a :: l, rfl, fun b hb => by rcases List.mem_cons.1 hb with rfl | hb; exact ha; exact hl b hb⟩

def iS : Sh := .int .i64
def spanS : List Sh := [iS, iS]
def pathS : List Sh := [iS, iS, iS, iS, iS, iS, iS, .sl spanS]
def netS : List Sh := [iS, .sl pathS]
def partyS : List Sh := [iS, iS, iS, iS]
def tripS : List Sh := [iS, iS, iS, iS, .sl [iS], iS]

theorem span_of {N : Nat} {r : List DV} (h : Sh.fitsL N spanS r) : ∃ s : Span, r = s.row ∧ True := by
  simp only [spanS, iS, Sh.fitsL, Sh.fits] at h
  obtain ⟨_, _, rfl, ⟨a, rfl, _⟩, _, _, rfl, ⟨b, rfl, _⟩, rfl⟩ := h
  exact ⟨⟨a, b⟩, rfl, trivial⟩

theorem path_of {N : Nat} {r : List DV} (h : Sh.fitsL N pathS r) : ∃ x : Path, r = x.row ∧ x.opens.length ≤ N := by
  simp only [pathS, iS, Sh.fitsL, Sh.fits] at h
  obtain ⟨_, _, rfl, ⟨a, rfl, _⟩, _, _, rfl, ⟨b, rfl, _⟩, _, _, rfl, ⟨c, rfl, _⟩, _, _, rfl, ⟨d, rfl, _⟩, _, _, rfl, ⟨e, rfl, _⟩, _, _, rfl, ⟨f, rfl, _⟩, _, _, rfl, ⟨g, rfl, _⟩, _, _, rfl, ⟨rows, rfl, hl, hr⟩, rfl⟩ := h
  obtain ⟨l, rfl, _⟩ := rows_of (fun r h => span_of (hr r h))
  exact ⟨⟨a, b, c, ⟨d, e⟩, ⟨f, g⟩, l⟩, rfl, by simpa using hl⟩

theorem net_of {N : Nat} (hN : N < 2 ^ 30) {r : List DV} (h : Sh.fitsL N netS r) : ∃ n : Net, r = n.cells ∧ n.Small := by
  simp only [netS, iS, Sh.fitsL, Sh.fits] at h
  obtain ⟨_, _, rfl, ⟨a, rfl, _⟩, _, _, rfl, ⟨rows, rfl, hl, hr⟩, rfl⟩ := h
  obtain ⟨l, rfl, hq⟩ := rows_of (fun r h => path_of (hr r h))
  refine ⟨⟨a, l⟩, rfl, ⟨?_, fun x hx => ?_⟩⟩
  · have : l.length ≤ N := by simpa using hl
    show l.length < 2 ^ 30
    omega
  · have := hq x hx
    omega

theorem party_of {N : Nat} {r : List DV} (h : Sh.fitsL N partyS r) : ∃ p : Party, r = p.cells := by
  simp only [partyS, iS, Sh.fitsL, Sh.fits] at h
  obtain ⟨_, _, rfl, ⟨a, rfl, _⟩, _, _, rfl, ⟨b, rfl, _⟩, _, _, rfl, ⟨c, rfl, _⟩, _, _, rfl, ⟨d, rfl, _⟩, rfl⟩ := h
  exact ⟨⟨a, b, ⟨c, d⟩⟩, rfl⟩

theorem int_of {N : Nat} {r : List DV} (h : Sh.fitsL N [iS] r) : ∃ s : Int, r = [.i s] ∧ True := by
  simp only [iS, Sh.fitsL, Sh.fits] at h
  obtain ⟨_, _, rfl, ⟨a, rfl, _⟩, rfl⟩ := h
  exact ⟨a, rfl, trivial⟩

theorem trip_of {N : Nat} {r : List DV} (h : Sh.fitsL N tripS r) : ∃ x : Trip, r = x.row ∧ x.route.length ≤ N := by
  simp only [tripS] at h
  simp only [iS, Sh.fitsL, Sh.fits] at h
  obtain ⟨_, _, rfl, ⟨a, rfl, _⟩, _, _, rfl, ⟨b, rfl, _⟩, _, _, rfl, ⟨c, rfl, _⟩, _, _, rfl, ⟨d, rfl, _⟩, _, _, rfl, ⟨rows, rfl, hl, hr⟩, _, _, rfl, ⟨e, rfl, _⟩, rfl⟩ := h
  obtain ⟨l, rfl, _⟩ := rows_of (row := fun i : Int => [DV.i i]) (fun r h => int_of (N := N) (by simp only [iS, Sh.fitsL, Sh.fits]; exact hr r h))
  exact ⟨⟨a, b, c, d, l, e⟩, rfl, by simpa using hl⟩

theorem netSh : shapes Try.prog 20 24 = some netS := by kernel_rfl
theorem partySh : shapes Try.prog 20 28 = some partyS := by kernel_rfl
theorem tripSh : shapes Try.prog 20 31 = some tripS := by kernel_rfl

theorem bulk_mem {H : Type} : ∀ {l : List (DataW H)} {d : DataW H}, d ∈ l → Rows.uptoBulk d ≤ Rows.uptoBulkAll l
  | x :: r, d, h => by
    simp only [Rows.uptoBulkAll]
    rcases List.mem_cons.1 h with rfl | h
    · omega
    · have := bulk_mem h
      omega

theorem bulk_pos {H : Type} (d : DataW H) : 1 ≤ Rows.uptoBulk d := by
  cases d with
  | lit l => cases l <;> simp [Rows.uptoBulk]
  | _ => simp [Rows.uptoBulk]

theorem bulk_len {H : Type} : ∀ (l : List (DataW H)), l.length ≤ Rows.uptoBulkAll l
  | [] => by simp
  | x :: r => by
    have h1 := bulk_pos x
    have h2 := bulk_len r
    simp only [Rows.uptoBulkAll, List.length_cons]
    omega

theorem bulkOk {H : Type} : BulkOk (Rows.uptoBulk (H := H)) where
  slice := fun elems spare => by
    have := bulk_len elems
    simp only [Rows.uptoBulk]
    omega
  elem := fun elems spare d hd => by
    have := bulk_mem hd
    simp only [Rows.uptoBulk]
    omega
  part := fun parts d hd => by
    have := bulk_mem hd
    simp only [Rows.uptoBulk]
    omega

theorem agg_read {H : Type} {enc : TypeId × Value → H} {w : World} {t : TypeId} {sh : List Sh} (hs : shapes Try.prog 20 t = some sh) (h2 : 2 ≤ sh.length) {v : Value} {d : DataW H} {ps : List MemPlace}
    (h : DataW.Trod enc Try.prog w 0 (fun _ => true) true t v d ps) (hd : Rows.uptoBulk d ≤ 1048576) :
    ∃ ds, Sh.fitsL 1048576 sh ds ∧ DRel w (fun _ => False) (.agg ds) v := by
  obtain ⟨fuel, h⟩ := h
  obtain ⟨hl, ds, hf, hr⟩ := trod_read bulkOk 1048576 20 t sh hs fuel _ _ _ h hd
  have hdl := Sh.fitsL_len hf
  refine ⟨ds, hf, ?_⟩
  cases v with
  | agg cs =>
    simp only [Value.cells] at hl hr
    exact .agg _ _ (by simpa [hdl] using hl.symm) fun i d v h1 h2 => (hr i d v h1 (by simpa using h2)).2
  | _ => simp [Value.cells] at hl; omega

/-- A contract of the walk gives a statement's contract. -/
theorem link {f : FuncId} {fn : Func} (hf : ∀ (n : Net) (p : Party) (x : Trip), n.Small → x.route.length < 2 ^ 30 → Fn Try.prog f [.agg n.cells, .agg p.cells, .agg x.row] (.bool true)) (hfn : fn.params = #[24, 28, 31]) (hr : fn.resultTypes = #[4])
    (s : ChangeSpec) (hv : s.vars = []) (hs : ∀ (H : Type) (a b c : DataW H), s.fn H [a, b, c] = { results := [.lit (.bool true)], args := [a, b, c] })
    {H : Type} {enc : TypeId × Value → H} {W : World} {args : Array Value} {ds gs : List (DataW H)} {before : List MemPlace}
    (hW : DataW.Whole enc Try.prog fn.params.toList s.vars false W args.toList ds gs before) (hk : Rows.uptoSmall H (ds ++ gs) = true) :
    Calls Try.prog f args W fun e W' => ∃ v, e = .returned v ∧ s.post enc Try.prog fn false true false false W args v W' := by
  have hW' := hW
  obtain ⟨p, q, hA, hV, rfl, hfz, hnd⟩ := hW
  rw [hfn] at hA
  rw [hv] at hV
  obtain ⟨v0, v1, v2, d0, d1, d2, p0, p1, p2, rfl, rfl, rfl, h0, h1, h2⟩ := trodAll_three hA
  obtain ⟨rfl, rfl⟩ := trodVars_none hV
  have hb := of_decide_eq_true hk
  simp only [List.append_nil, Rows.uptoBulkAll] at hb
  obtain ⟨e0, hf0, r0⟩ := agg_read netSh (by decide) h0 (by omega)
  obtain ⟨e1, hf1, r1⟩ := agg_read partySh (by decide) h1 (by omega)
  obtain ⟨e2, hf2, r2⟩ := agg_read tripSh (by decide) h2 (by omega)
  obtain ⟨n, rfl, hsm⟩ := net_of (by decide) hf0
  obtain ⟨pa, rfl⟩ := party_of hf1
  obtain ⟨x, rfl, hxr⟩ := trip_of hf2
  have hc := (hf n pa x hsm (by omega)).2 W (fun _ => False) #[v0, v1, v2] (fun _ h => h.elim) ⟨rfl, by
    intro i d v hd hv
    match i, hd, hv with
    | 0, hd, hv => simp at hd hv; subst hd; subst hv; exact r0
    | 1, hd, hv => simp at hd hv; subst hd; subst hv; exact r1
    | 2, hd, hv => simp at hd hv; subst hd; subst hv; exact r2
    | i + 3, hd, hv => simp at hd⟩
  refine hc.mono fun e W' h => ?_
  obtain ⟨v, rfl, hrel, hbel⟩ := h
  cases hrel
  refine ⟨_, rfl, ?_⟩
  have hlt : ∀ y ∈ p0 ++ p1 ++ p2, y.block < W.heap.size := fun y hy => hW'.lt y (by simpa using hy)
  have hargs : ∀ sp : Nat → Bool, (∀ p ∈ p0 ++ p1 ++ p2, sp p.block = true) → DataW.TrodAll enc Try.prog W' 0 sp true [24, 28, 31] [v0, v1, v2] [d0, d1, d2] (p0 ++ (p1 ++ p2)) := by
    intro sp hsp
    have st : ∀ (t : TypeId) (v : Value) (d : DataW H) (ps : List MemPlace), Try.prog.readableRec t = true → t < Try.prog.types.size → (∀ y ∈ ps, y ∈ p0 ++ p1 ++ p2) → DataW.Trod enc Try.prog W 0 (fun _ => true) true t v d ps → DataW.Trod enc Try.prog W' 0 sp true t v d ps :=
      fun t v d ps hr ht hin h => WideElems.Trod_stays (by kernel_rfl) hr ht h (fun y hy => hbel.same (hlt y (hin y hy))) (fun y hy => hsp y (hin y hy))
    exact trodAll_mk3 (st 24 _ _ _ (by kernel_rfl) (of_decide_eq_true (by kernel_rfl)) (fun y hy => by simp [hy]) h0) (st 28 _ _ _ (by kernel_rfl) (of_decide_eq_true (by kernel_rfl)) (fun y hy => by simp [hy]) h1) (st 31 _ _ _ (by kernel_rfl) (of_decide_eq_true (by kernel_rfl)) (fun y hy => by simp [hy]) h2)
  have hok : Value.okWide Try.prog W' .any 0 4 (.bool true) := okWide_bool_mk (t := 4) Try.underlying4 true
  refine post_of_below (pa := p0 ++ (p1 ++ p2)) (pv := []) hW' ?_ ?_ ?_ (by simp) hbel ?_
  · intro b sp hd
    rw [hr, show ([d0, d1, d2] ++ [] : List (DataW H)) = [d0, d1, d2] from rfl, hs]
    exact trodAll_mk1 (shut_bool Try.underlying4 _)
  · intro sp hsp
    rw [hfn, show ([d0, d1, d2] ++ [] : List (DataW H)) = [d0, d1, d2] from rfl, hs]
    exact hargs sp (fun y hy => hsp y (by simpa using hy))
  · intro sp hsp
    rw [hv, show ([d0, d1, d2] ++ [] : List (DataW H)) = [d0, d1, d2] from rfl, hs]
    rfl
  · exact ok_one hr rfl hok
end Go.Ab
namespace Go.Ab
open Go.RowKit Go.Proofs
set_option maxHeartbeats 4000000
set_option maxRecDepth 20000
attribute [local irreducible] WalkL Walk

theorem f32 (l : List Int) (v : Int) (hs : l.length < 2 ^ 30) : Fn Try.prog 32 [.sl (intRows l), .i v] (.bool (l.any fun x => x == v)) := by
  refine fn_walk 18 Try.call32 Try.func32 rfl (by decide) fun J => ?_
  simp (maxSteps := 4000000) only [go_sem, St.start, Try.ntmps32, Try.results32]
  repeat (first | refine walkL_seq ?_ | refine walkL_skip ?_ | refine walkL_block ?_ | (refine walkL_region fun K hK => ?_; simp (maxSteps := 4000000) only [go_sem]; refine hK _ ?_; clear hK K) | refine walkL_nil ?_ | refine walkL_ret ?_ | refine walkL_exit ?_ | refine blockA_here ?_ | refine blockA_other rfl ?_ | refine blockA_ret ?_ | refine blockA_normal ?_ | refine thenA_ret ?_ | refine thenA_exit ?_ | refine thenA_normal ?_)
  refine walkL_loopS (fun (i : Nat) => [(5, .d (.i i))]) (fun _ => []) (fun i => i ≤ l.length ∧ (l.take i).any (fun x => x == v) = false) (fun i => l.length - i) 0 ?_ ⟨Nat.zero_le _, rfl⟩ ?_
  · simp (maxSteps := 4000000) only [go_sem]
    refine weak_of [] ?_ ?_ rfl rfl <;> simp [lessT, lessM, lessB, AV.less]
  · intro i ⟨hi, hall⟩
    simp (maxSteps := 4000000) only [go_sem]
    repeat (first | refine walkL_seq ?_ | refine walkL_skip ?_ | refine walkL_block ?_ | (refine walkL_region fun K hK => ?_; simp (maxSteps := 4000000) only [go_sem, intRows_len]; refine hK _ ?_; clear hK K) | refine walkL_nil ?_ | refine walkL_ret ?_ | refine walkL_exit ?_ | refine blockA_here ?_ | refine blockA_other rfl ?_ | refine blockA_ret ?_ | refine blockA_normal ?_ | refine thenA_ret ?_ | refine thenA_exit ?_ | refine thenA_normal ?_)
    refine walkL_cond rfl (fun hb => ?_) (fun hb => ?_)
    · have hlt : i < l.length := by simpa using hb
      have hw : IntKind.i64.wrap ((i : Int) + 1) = ((i + 1 : Nat) : Int) := by rw [wr_small (by omega)]; simp
      obtain ⟨x, hx⟩ : ∃ x, l[i]? = some x := ⟨_, List.getElem?_eq_getElem hlt⟩
      have g1 := intRows_at hx
      repeat (first | refine walkL_seq ?_ | refine walkL_skip ?_ | refine walkL_block ?_ | (refine walkL_region fun K hK => ?_; simp (maxSteps := 4000000) only [go_sem, g1]; refine hK _ ?_; clear hK K) | refine walkL_nil ?_ | refine walkL_ret ?_ | refine walkL_exit ?_ | refine blockA_here ?_ | refine blockA_other rfl ?_ | refine blockA_ret ?_ | refine blockA_normal ?_ | refine thenA_ret ?_ | refine thenA_exit ?_ | refine thenA_normal ?_)
      refine walkL_cond rfl (fun hd => ?_) (fun hd => ?_)
      · repeat (first | refine walkL_seq ?_ | refine walkL_skip ?_ | refine walkL_block ?_ | (refine walkL_region fun K hK => ?_; simp (maxSteps := 4000000) only [go_sem]; refine hK _ ?_; clear hK K) | refine walkL_nil ?_ | refine walkL_ret ?_ | refine walkL_exit ?_ | refine blockA_here ?_ | refine blockA_other rfl ?_ | refine blockA_ret ?_ | refine blockA_normal ?_ | refine thenA_ret ?_ | refine thenA_exit ?_ | refine thenA_normal ?_)
        have ha := any_of_get (q := fun x : Int => x == v) hx (by simpa using hd)
        simp (maxSteps := 4000000) only [go_sem, ha]
      · repeat (first | refine walkL_seq ?_ | refine walkL_skip ?_ | refine walkL_block ?_ | (refine walkL_region fun K hK => ?_; simp (maxSteps := 4000000) only [go_sem, hw]; refine hK _ ?_; clear hK K) | refine walkL_nil ?_ | refine walkL_ret ?_ | refine walkL_exit ?_ | refine blockA_here ?_ | refine blockA_other rfl ?_ | refine blockA_ret ?_ | refine blockA_normal ?_ | refine thenA_ret ?_ | refine thenA_exit ?_ | refine thenA_normal ?_)
        refine ⟨rfl, i + 1, ?_, ⟨hlt, any_take_succ hx hall (by simpa using hd)⟩, by omega⟩
        refine weak_of [] ?_ ?_ rfl rfl <;> simp [lessT, lessM, lessB, AV.less]
    · have he : i = l.length := by (have : ¬ i < l.length := by simpa using hb); omega
      subst he
      rw [List.take_length] at hall
      repeat (first | refine walkL_seq ?_ | refine walkL_skip ?_ | refine walkL_block ?_ | (refine walkL_region fun K hK => ?_; simp (maxSteps := 4000000) only [go_sem]; refine hK _ ?_; clear hK K) | refine walkL_nil ?_ | refine walkL_ret ?_ | refine walkL_exit ?_ | refine blockA_here ?_ | refine blockA_other rfl ?_ | refine blockA_ret ?_ | refine blockA_normal ?_ | refine thenA_ret ?_ | refine thenA_exit ?_ | refine thenA_normal ?_)
      simp (maxSteps := 4000000) only [go_sem, hall]

theorem f89 (l : List Int) (v : Int) (hs : l.length < 2 ^ 30) : Fn Try.prog 89 [.sl (intRows l), .i v] (.bool (l.any fun x => x == v)) := by
  refine fn_walk 18 Try.call89 Try.func89 rfl (by decide) fun J => ?_
  simp (maxSteps := 4000000) only [go_sem, St.start, Try.ntmps89, Try.results89]
  repeat (first | refine walkL_seq ?_ | refine walkL_skip ?_ | refine walkL_block ?_ | (refine walkL_region fun K hK => ?_; simp (maxSteps := 4000000) only [go_sem]; refine hK _ ?_; clear hK K) | refine walkL_nil ?_ | refine walkL_ret ?_ | refine walkL_exit ?_ | refine blockA_here ?_ | refine blockA_other rfl ?_ | refine blockA_ret ?_ | refine blockA_normal ?_ | refine thenA_ret ?_ | refine thenA_exit ?_ | refine thenA_normal ?_)
  refine walkL_loopS (fun (i : Nat) => [(5, .d (.i i))]) (fun _ => []) (fun i => i ≤ l.length ∧ (l.take i).any (fun x => x == v) = false) (fun i => l.length - i) 0 ?_ ⟨Nat.zero_le _, rfl⟩ ?_
  · simp (maxSteps := 4000000) only [go_sem]
    refine weak_of [] ?_ ?_ rfl rfl <;> simp [lessT, lessM, lessB, AV.less]
  · intro i ⟨hi, hall⟩
    simp (maxSteps := 4000000) only [go_sem]
    repeat (first | refine walkL_seq ?_ | refine walkL_skip ?_ | refine walkL_block ?_ | (refine walkL_region fun K hK => ?_; simp (maxSteps := 4000000) only [go_sem, intRows_len]; refine hK _ ?_; clear hK K) | refine walkL_nil ?_ | refine walkL_ret ?_ | refine walkL_exit ?_ | refine blockA_here ?_ | refine blockA_other rfl ?_ | refine blockA_ret ?_ | refine blockA_normal ?_ | refine thenA_ret ?_ | refine thenA_exit ?_ | refine thenA_normal ?_)
    refine walkL_cond rfl (fun hb => ?_) (fun hb => ?_)
    · have hlt : i < l.length := by simpa using hb
      have hw : IntKind.i64.wrap ((i : Int) + 1) = ((i + 1 : Nat) : Int) := by rw [wr_small (by omega)]; simp
      obtain ⟨x, hx⟩ : ∃ x, l[i]? = some x := ⟨_, List.getElem?_eq_getElem hlt⟩
      have g1 := intRows_at hx
      repeat (first | refine walkL_seq ?_ | refine walkL_skip ?_ | refine walkL_block ?_ | (refine walkL_region fun K hK => ?_; simp (maxSteps := 4000000) only [go_sem, g1]; refine hK _ ?_; clear hK K) | refine walkL_nil ?_ | refine walkL_ret ?_ | refine walkL_exit ?_ | refine blockA_here ?_ | refine blockA_other rfl ?_ | refine blockA_ret ?_ | refine blockA_normal ?_ | refine thenA_ret ?_ | refine thenA_exit ?_ | refine thenA_normal ?_)
      refine walkL_cond rfl (fun hd => ?_) (fun hd => ?_)
      · repeat (first | refine walkL_seq ?_ | refine walkL_skip ?_ | refine walkL_block ?_ | (refine walkL_region fun K hK => ?_; simp (maxSteps := 4000000) only [go_sem]; refine hK _ ?_; clear hK K) | refine walkL_nil ?_ | refine walkL_ret ?_ | refine walkL_exit ?_ | refine blockA_here ?_ | refine blockA_other rfl ?_ | refine blockA_ret ?_ | refine blockA_normal ?_ | refine thenA_ret ?_ | refine thenA_exit ?_ | refine thenA_normal ?_)
        have ha := any_of_get (q := fun x : Int => x == v) hx (by simpa using hd)
        simp (maxSteps := 4000000) only [go_sem, ha]
      · repeat (first | refine walkL_seq ?_ | refine walkL_skip ?_ | refine walkL_block ?_ | (refine walkL_region fun K hK => ?_; simp (maxSteps := 4000000) only [go_sem, hw]; refine hK _ ?_; clear hK K) | refine walkL_nil ?_ | refine walkL_ret ?_ | refine walkL_exit ?_ | refine blockA_here ?_ | refine blockA_other rfl ?_ | refine blockA_ret ?_ | refine blockA_normal ?_ | refine thenA_ret ?_ | refine thenA_exit ?_ | refine thenA_normal ?_)
        refine ⟨rfl, i + 1, ?_, ⟨hlt, any_take_succ hx hall (by simpa using hd)⟩, by omega⟩
        refine weak_of [] ?_ ?_ rfl rfl <;> simp [lessT, lessM, lessB, AV.less]
    · have he : i = l.length := by (have : ¬ i < l.length := by simpa using hb); omega
      subst he
      rw [List.take_length] at hall
      repeat (first | refine walkL_seq ?_ | refine walkL_skip ?_ | refine walkL_block ?_ | (refine walkL_region fun K hK => ?_; simp (maxSteps := 4000000) only [go_sem]; refine hK _ ?_; clear hK K) | refine walkL_nil ?_ | refine walkL_ret ?_ | refine walkL_exit ?_ | refine blockA_here ?_ | refine blockA_other rfl ?_ | refine blockA_ret ?_ | refine blockA_normal ?_ | refine thenA_ret ?_ | refine thenA_exit ?_ | refine thenA_normal ?_)
      simp (maxSteps := 4000000) only [go_sem, hall]
end Go.Ab
namespace Go.Ab
open Go.RowKit Go.Proofs
set_option maxHeartbeats 4000000
set_option maxRecDepth 20000
attribute [local irreducible] WalkL Walk

/-- One path further, if it begins here and the party can walk it. -/
def onB (n : Net) (p : Party) (f i : Int) : Option Int :=
  if withinB i 0 (n.paths.length - 1) then match n.paths[i.toNat]? with
    | some x => if x.grade ≤ p.grade ∧ x.frm = f then some x.to else none
    | none => none
  else none
/-- Where these paths lead. -/
def walkR (n : Net) (p : Party) (f : Int) (l : List Int) : Option Int := l.foldl (fun s i => s.bind fun g => onB n p g i) (some f)
def isRouteB (n : Net) (p : Party) (f : Int) (l : List Int) : Bool := (walkR n p f l).isSome && decide ((l.length : Int) ≤ 30)

theorem walkR_none (n : Net) (p : Party) : ∀ l : List Int, l.foldl (fun s i => s.bind fun g => onB n p g i) none = none
  | [] => rfl
  | _ :: l => walkR_none n p l

theorem walkR_succ {n : Net} {p : Party} {f g : Int} {l : List Int} {i : Nat} {v : Int} (h : l[i]? = some v) (h0 : walkR n p f (l.take i) = some g) : walkR n p f (l.take (i + 1)) = onB n p g v := by
  unfold walkR at h0 ⊢
  rw [List.take_add_one, h, List.foldl_append, h0]; rfl

theorem walkR_stop {n : Net} {p : Party} {f : Int} {l : List Int} {i : Nat} (h0 : walkR n p f (l.take i) = none) : walkR n p f l = none := by
  have h : walkR n p f (l.take i ++ l.drop i) = none := by
    unfold walkR at h0 ⊢
    rw [List.foldl_append, h0]
    exact walkR_none n p _
  rwa [List.take_append_drop] at h

theorem f22 (n : Net) (p : Party) (l : List Int) (frm : Int) (hn : n.paths.length < 2 ^ 30) (hs : l.length < 2 ^ 30) : Fn Try.prog 22 [.agg n.cells, .agg p.cells, .sl (intRows l), .i frm] (.bool (isRouteB n p frm l)) := by
  have h33 := fun y => f33 n y (by omega)
  refine fn_walk 58 Try.call22 Try.func22 rfl (by decide) fun J => ?_
  simp (maxSteps := 4000000) only [go_sem, St.start, Try.ntmps22, Try.results22, Net.cells, Party.cells]
  repeat (first | refine walkL_seq ?_ | refine walkL_skip ?_ | refine walkL_block ?_ | (refine walkL_region fun K hK => ?_; simp (maxSteps := 4000000) only [go_sem]; refine hK _ ?_; clear hK K) | refine walkL_nil ?_ | refine walkL_ret ?_ | refine walkL_exit ?_ | refine blockA_here ?_ | refine blockA_other rfl ?_ | refine blockA_ret ?_ | refine blockA_normal ?_ | refine thenA_ret ?_ | refine thenA_exit ?_ | refine thenA_normal ?_)
  refine walkL_loopS (fun (a : Nat × Int) => [(9, .d (.i a.1)), (3, .d (.i a.2))]) (fun _ => []) (fun a => a.1 ≤ l.length ∧ walkR n p frm (l.take a.1) = some a.2) (fun a => l.length - a.1) (0, frm) ?_ ⟨Nat.zero_le _, rfl⟩ ?_
  · simp (maxSteps := 4000000) only [go_sem]
    refine weak_of [] ?_ ?_ rfl rfl <;> simp [lessT, lessM, lessB, AV.less]
  · intro ⟨i, f⟩ ⟨hi, hall⟩
    dsimp only at hi hall
    simp (maxSteps := 4000000) only [go_sem]
    repeat (first | refine walkL_seq ?_ | refine walkL_skip ?_ | refine walkL_block ?_ | (refine walkL_region fun K hK => ?_; simp (maxSteps := 4000000) only [go_sem, intRows_len]; refine hK _ ?_; clear hK K) | refine walkL_nil ?_ | refine walkL_ret ?_ | refine walkL_exit ?_ | refine blockA_here ?_ | refine blockA_other rfl ?_ | refine blockA_ret ?_ | refine blockA_normal ?_ | refine thenA_ret ?_ | refine thenA_exit ?_ | refine thenA_normal ?_)
    refine walkL_cond rfl (fun hb => ?_) (fun hb => ?_)
    · have hlt : i < l.length := by simpa using hb
      have hw : IntKind.i64.wrap ((i : Int) + 1) = ((i + 1 : Nat) : Int) := by rw [wr_small (by omega)]; simp
      obtain ⟨v, hv⟩ : ∃ v, l[i]? = some v := ⟨_, List.getElem?_eq_getElem hlt⟩
      have g1 := intRows_at hv
      have hsu := walkR_succ hv hall
      by_cases hin : withinB v 0 (n.paths.length - 1) = true
      · obtain ⟨hv0, hv1⟩ := within_iff.1 hin
        obtain ⟨j, rfl⟩ : ∃ j : Nat, v = (j : Int) := ⟨v.toNat, by omega⟩
        obtain ⟨x, hx⟩ : ∃ x, n.paths[j]? = some x := ⟨_, List.getElem?_eq_getElem (by omega)⟩
        have h61 := f61 n p j x hx
        have hon : onB n p f j = if x.grade ≤ p.grade ∧ x.frm = f then some x.to else none := by simp [onB, hin, hx]
        repeat (first | refine walkL_seq ?_ | refine walkL_skip ?_ | refine walkL_block ?_ | (refine walkL_region fun K hK => ?_; simp (maxSteps := 4000000) only [go_sem]; refine hK _ ?_; clear hK K) | refine walkL_nil ?_ | refine walkL_ret ?_ | refine walkL_exit ?_ | refine blockA_here ?_ | refine blockA_other rfl ?_ | refine blockA_ret ?_ | refine blockA_normal ?_ | refine thenA_ret ?_ | refine thenA_exit ?_ | refine thenA_normal ?_)
        refine walkL_meetS [(45, .d (.bool (!withinB (j : Int) 0 (n.paths.length - 1) || (!decide (x.grade ≤ p.grade) || x.frm != f))))] [] ?_ ?_
        · refine walkL_drawn (by kernel_rfl) (by kernel_rfl) fun K hK => ?_
          simp (maxSteps := 4000000) only [go_sem, g1, hx, List.getElem?_map, Path.row]
          refine ⟨_, .fn (hf := h33 j) (hd := rfl) (hr := .inl rfl), ?_⟩
          simp (maxSteps := 4000000) only [go_sem, g1, hx, List.getElem?_map, Path.row]
          by_cases ho0 : (!withinB (j : Int) 0 (n.paths.length - 1)) = true
          · simp (maxSteps := 4000000) only [go_sem, g1, hx, List.getElem?_map, Path.row, ho0]
            refine ⟨by kernel_rfl, hK _ ?_⟩
            clear hK K
            refine walkL_nil ?_
            refine thenA_normal ?_
            refine ⟨rfl, ?_⟩
            rw [show (!withinB (j : Int) 0 (n.paths.length - 1) || (!decide (x.grade ≤ p.grade) || x.frm != f)) = (true) from by simp [ho0]]
            simp (maxSteps := 4000000) only [go_sem]
            refine weak_of [] ?_ ?_ rfl rfl <;> simp [lessT, lessM, lessB, AV.less]
          · simp (maxSteps := 4000000) only [go_sem, g1, hx, List.getElem?_map, Path.row, ho0]
            refine ⟨_, .fn (hf := h61) (hd := rfl) (hr := .inl rfl), ?_⟩
            simp (maxSteps := 4000000) only [go_sem, g1, hx, List.getElem?_map, Path.row, ho0]
            by_cases ho1 : (!decide (x.grade ≤ p.grade)) = true
            · simp (maxSteps := 4000000) only [go_sem, g1, hx, List.getElem?_map, Path.row, ho0, ho1]
              refine ⟨by kernel_rfl, hK _ ?_⟩
              clear hK K
              refine walkL_nil ?_
              refine thenA_normal ?_
              refine ⟨rfl, ?_⟩
              rw [show (!withinB (j : Int) 0 (n.paths.length - 1) || (!decide (x.grade ≤ p.grade) || x.frm != f)) = (true) from by simp [ho0, ho1]]
              simp (maxSteps := 4000000) only [go_sem]
              refine weak_of [] ?_ ?_ rfl rfl <;> simp [lessT, lessM, lessB, AV.less]
            · simp (maxSteps := 4000000) only [go_sem, g1, hx, List.getElem?_map, Path.row, ho0, ho1]
              refine ⟨by kernel_rfl, hK _ ?_⟩
              clear hK K
              refine walkL_nil ?_
              refine thenA_normal ?_
              refine ⟨rfl, ?_⟩
              rw [show (!withinB (j : Int) 0 (n.paths.length - 1) || (!decide (x.grade ≤ p.grade) || x.frm != f)) = (x.frm != f) from by simp [ho0, ho1]]
              simp (maxSteps := 4000000) only [go_sem]
              refine weak_of [] ?_ ?_ rfl rfl <;> simp [lessT, lessM, lessB, AV.less]
        simp (maxSteps := 4000000) only [go_sem]
        refine walkL_cond rfl (fun hc => ?_) (fun hc => ?_)
        · have hno : walkR n p frm l = none := by
            refine walkR_stop (i := i + 1) ?_
            rw [hsu, hon, if_neg]
            rintro ⟨h1, h2⟩
            simp [hin, h1, h2] at hc
          have hf : isRouteB n p frm l = false := by simp [isRouteB, hno]
          repeat (first | refine walkL_seq ?_ | refine walkL_skip ?_ | refine walkL_block ?_ | (refine walkL_region fun K hK => ?_; simp (maxSteps := 4000000) only [go_sem]; refine hK _ ?_; clear hK K) | refine walkL_nil ?_ | refine walkL_ret ?_ | refine walkL_exit ?_ | refine blockA_here ?_ | refine blockA_other rfl ?_ | refine blockA_ret ?_ | refine blockA_normal ?_ | refine thenA_ret ?_ | refine thenA_exit ?_ | refine thenA_normal ?_)
          simp (maxSteps := 4000000) only [go_sem, hf]
        · have hyes : x.grade ≤ p.grade ∧ x.frm = f := by simpa [hin] using hc
          rw [hon, if_pos hyes] at hsu
          repeat (first | refine walkL_seq ?_ | refine walkL_skip ?_ | refine walkL_block ?_ | (refine walkL_region fun K hK => ?_; simp (maxSteps := 4000000) only [go_sem]; refine hK _ ?_; clear hK K) | refine walkL_nil ?_ | refine walkL_ret ?_ | refine walkL_exit ?_ | refine blockA_here ?_ | refine blockA_other rfl ?_ | refine blockA_ret ?_ | refine blockA_normal ?_ | refine thenA_ret ?_ | refine thenA_exit ?_ | refine thenA_normal ?_)
          refine walkL_drawn (by kernel_rfl) (by kernel_rfl) fun K hK => ?_
          simp (maxSteps := 4000000) only [go_sem, g1, hx, List.getElem?_map, Path.row]
          refine ⟨by kernel_rfl, hK _ ?_⟩
          clear hK K
          repeat (first | refine walkL_seq ?_ | refine walkL_skip ?_ | refine walkL_block ?_ | (refine walkL_region fun K hK => ?_; simp (maxSteps := 4000000) only [go_sem, hw]; refine hK _ ?_; clear hK K) | refine walkL_nil ?_ | refine walkL_ret ?_ | refine walkL_exit ?_ | refine blockA_here ?_ | refine blockA_other rfl ?_ | refine blockA_ret ?_ | refine blockA_normal ?_ | refine thenA_ret ?_ | refine thenA_exit ?_ | refine thenA_normal ?_)
          refine ⟨rfl, (i + 1, x.to), ?_, ⟨hlt, hsu⟩, by dsimp only; omega⟩
          refine weak_of [] ?_ ?_ rfl rfl <;> simp [lessT, lessM, lessB, AV.less]
      · have hin' : withinB v 0 (n.paths.length - 1) = false := by simpa using hin
        have hno : walkR n p frm l = none := by
          refine walkR_stop (i := i + 1) ?_
          rw [hsu, onB, if_neg hin]
        repeat (first | refine walkL_seq ?_ | refine walkL_skip ?_ | refine walkL_block ?_ | (refine walkL_region fun K hK => ?_; simp (maxSteps := 4000000) only [go_sem]; refine hK _ ?_; clear hK K) | refine walkL_nil ?_ | refine walkL_ret ?_ | refine walkL_exit ?_ | refine blockA_here ?_ | refine blockA_other rfl ?_ | refine blockA_ret ?_ | refine blockA_normal ?_ | refine thenA_ret ?_ | refine thenA_exit ?_ | refine thenA_normal ?_)
        refine walkL_drawn (by kernel_rfl) (by kernel_rfl) fun K hK => ?_
        simp (maxSteps := 4000000) only [go_sem, g1, hin']
        refine ⟨_, .fn (hf := h33 v) (hd := rfl) (hr := .inl rfl), ?_⟩
        simp (maxSteps := 4000000) only [go_sem, hin']
        refine ⟨by kernel_rfl, hK _ ?_⟩
        clear hK K
        have hf : isRouteB n p frm l = false := by simp [isRouteB, hno]
        refine walkL_true rfl ?_
        repeat (first | refine walkL_seq ?_ | refine walkL_skip ?_ | refine walkL_block ?_ | (refine walkL_region fun K hK => ?_; simp (maxSteps := 4000000) only [go_sem]; refine hK _ ?_; clear hK K) | refine walkL_nil ?_ | refine walkL_ret ?_ | refine walkL_exit ?_ | refine blockA_here ?_ | refine blockA_other rfl ?_ | refine blockA_ret ?_ | refine blockA_normal ?_ | refine thenA_ret ?_ | refine thenA_exit ?_ | refine thenA_normal ?_)
        simp (maxSteps := 4000000) only [go_sem, hf]
    · have he : i = l.length := by (have : ¬ i < l.length := by simpa using hb); omega
      subst he
      rw [List.take_length] at hall
      have hf : isRouteB n p frm l = decide ((l.length : Int) ≤ 30) := by simp [isRouteB, hall]
      repeat (first | refine walkL_seq ?_ | refine walkL_skip ?_ | refine walkL_block ?_ | (refine walkL_region fun K hK => ?_; simp (maxSteps := 4000000) only [go_sem]; refine hK _ ?_; clear hK K) | refine walkL_nil ?_ | refine walkL_ret ?_ | refine walkL_exit ?_ | refine blockA_here ?_ | refine blockA_other rfl ?_ | refine blockA_ret ?_ | refine blockA_normal ?_ | refine thenA_ret ?_ | refine thenA_exit ?_ | refine thenA_normal ?_)
      simp (maxSteps := 4000000) only [go_sem, hf, intRows_len]
end Go.Ab
namespace Go.Ab
open Go.RowKit Go.Proofs
set_option maxHeartbeats 4000000
set_option maxRecDepth 20000
attribute [local irreducible] WalkL Walk

def noPath : Path := ⟨0, 0, 0, ⟨0, 0⟩, ⟨0, 0⟩, []⟩
def pathAt (n : Net) (v : Int) : Path := n.paths.getD v.toNat noPath

/-- One path of a route: the party waits, then enters it when it opens. -/
def roundW (n : Net) (p : Party) (waits times : List Int) (i : Nat) (v at0 : Int) : Option Int :=
  let e := enterF (pathAt n v).opens (if i < waits.length then wr (at0 + getI waits i) else at0)
  if e ≥ 1073741824 then none else some (wr (e + if i < times.length then getI times i else (spanW (pathAt n v) p).hi))
def walkedAt (n : Net) (p : Party) (route waits times : List Int) (start : Int) : Nat → Option Int
  | 0 => some start
  | i + 1 => (walkedAt n p route waits times start i).bind (roundW n p waits times i (getI route i))
def walkedF (n : Net) (p : Party) (route : List Int) (start : Int) (waits times : List Int) : Int := (walkedAt n p route waits times start route.length).getD 1073741824

theorem walkedAt_none {n : Net} {p : Party} {route waits times : List Int} {start : Int} {i : Nat} (h : walkedAt n p route waits times start i = none) : ∀ j, walkedAt n p route waits times start (i + j) = none
  | 0 => h
  | j + 1 => by rw [show i + (j + 1) = (i + j) + 1 from rfl, walkedAt, walkedAt_none h j]; rfl

/-- A path's number. -/
def onNet (n : Net) (v : Int) : Prop := 0 ≤ v ∧ v < n.paths.length

theorem f23 (n : Net) (p : Party) (route waits times : List Int) (start : Int) (hs : n.Small) (hr : ∀ v ∈ route, onNet n v) (h1 : route.length < 2 ^ 30) (h2 : waits.length < 2 ^ 30) (h3 : times.length < 2 ^ 30) :
    Fn Try.prog 23 [.agg n.cells, .agg p.cells, .sl (intRows route), .i start, .sl (intRows waits), .sl (intRows times)] (.i (walkedF n p route start waits times)) := by
  refine fn_walk 66 Try.call23 Try.func23 rfl (by decide) fun J => ?_
  simp (maxSteps := 4000000) only [go_sem, St.start, Try.ntmps23, Try.results23, Net.cells, Party.cells]
  repeat (first | refine walkL_seq ?_ | refine walkL_skip ?_ | refine walkL_block ?_ | (refine walkL_region fun K hK => ?_; simp (maxSteps := 4000000) only [go_sem]; refine hK _ ?_; clear hK K) | refine walkL_nil ?_ | refine walkL_ret ?_ | refine walkL_exit ?_ | refine blockA_here ?_ | refine blockA_other rfl ?_ | refine blockA_ret ?_ | refine blockA_normal ?_ | refine thenA_ret ?_ | refine thenA_exit ?_ | refine thenA_normal ?_)
  refine walkL_loopS (fun (a : Nat × Int) => [(14, .d (.i a.1)), (13, .d (.i a.2)), (15, .undef), (16, .undef)]) (fun _ => []) (fun a => a.1 ≤ route.length ∧ walkedAt n p route waits times start a.1 = some a.2) (fun a => route.length - a.1) (0, start) ?_ ⟨Nat.zero_le _, rfl⟩ ?_
  · simp (maxSteps := 4000000) only [go_sem]
    refine weak_of [] ?_ ?_ rfl rfl <;> simp [lessT, lessM, lessB, AV.less]
  · intro ⟨i, t⟩ ⟨hi, hall⟩
    dsimp only at hi hall
    simp (maxSteps := 4000000) only [go_sem]
    repeat (first | refine walkL_seq ?_ | refine walkL_skip ?_ | refine walkL_block ?_ | (refine walkL_region fun K hK => ?_; simp (maxSteps := 4000000) only [go_sem, intRows_len]; refine hK _ ?_; clear hK K) | refine walkL_nil ?_ | refine walkL_ret ?_ | refine walkL_exit ?_ | refine blockA_here ?_ | refine blockA_other rfl ?_ | refine blockA_ret ?_ | refine blockA_normal ?_ | refine thenA_ret ?_ | refine thenA_exit ?_ | refine thenA_normal ?_)
    refine walkL_cond rfl (fun hb => ?_) (fun hb => ?_)
    · have hlt : i < route.length := by simpa using hb
      have hw : IntKind.i64.wrap ((i : Int) + 1) = ((i + 1 : Nat) : Int) := by rw [wr_small (by omega)]; simp
      obtain ⟨v, hv⟩ : ∃ v, route[i]? = some v := ⟨_, List.getElem?_eq_getElem hlt⟩
      have g1 := intRows_at hv
      have hgv : getI route i = v := by simp [getI, List.getD, hv]
      obtain ⟨hv0, hv1⟩ := hr v (List.mem_of_getElem? hv)
      obtain ⟨j, rfl⟩ : ∃ j : Nat, v = (j : Int) := ⟨v.toNat, by omega⟩
      obtain ⟨x, hx⟩ : ∃ x, n.paths[j]? = some x := ⟨_, List.getElem?_eq_getElem (by omega)⟩
      have hpa : pathAt n j = x := by simp [pathAt, List.getD, hx]
      have hxo := hs.opens x (List.mem_of_getElem? hx)
      repeat (first | refine walkL_seq ?_ | refine walkL_skip ?_ | refine walkL_block ?_ | (refine walkL_region fun K hK => ?_; simp (maxSteps := 4000000) only [go_sem, intRows_len]; refine hK _ ?_; clear hK K) | refine walkL_nil ?_ | refine walkL_ret ?_ | refine walkL_exit ?_ | refine blockA_here ?_ | refine blockA_other rfl ?_ | refine blockA_ret ?_ | refine blockA_normal ?_ | refine thenA_ret ?_ | refine thenA_exit ?_ | refine thenA_normal ?_)
      obtain ⟨a, ha⟩ : ∃ a, a = (if i < waits.length then wr (t + getI waits i) else t) := ⟨_, rfl⟩
      refine walkL_meetS [(13, .d (.i a))] [] ?_ ?_
      · refine walkL_cond rfl (fun hc => ?_) (fun hc => ?_)
        · have hc' : i < waits.length := by simpa using hc
          obtain ⟨u, hu⟩ : ∃ u, waits[i]? = some u := ⟨_, List.getElem?_eq_getElem hc'⟩
          have g2 := intRows_at hu
          have hau : a = IntKind.i64.wrap (t + u) := by rw [ha, if_pos hc']; simp [getI, List.getD, hu]
          repeat (first | refine walkL_seq ?_ | refine walkL_skip ?_ | refine walkL_block ?_ | (refine walkL_region fun K hK => ?_; simp (maxSteps := 4000000) only [go_sem, g2, ← hau]; refine hK _ ?_; clear hK K) | refine walkL_nil ?_ | refine walkL_ret ?_ | refine walkL_exit ?_ | refine blockA_here ?_ | refine blockA_other rfl ?_ | refine blockA_ret ?_ | refine blockA_normal ?_ | refine thenA_ret ?_ | refine thenA_exit ?_ | refine thenA_normal ?_)
          refine ⟨rfl, ?_⟩
          simp (maxSteps := 4000000) only [go_sem]
          refine weak_of [] ?_ ?_ rfl rfl <;> simp [lessT, lessM, lessB, AV.less]
        · have hc' : ¬ i < waits.length := by simpa using hc
          have hau : a = t := by rw [ha, if_neg hc']
          repeat (first | refine walkL_seq ?_ | refine walkL_skip ?_ | refine walkL_block ?_ | (refine walkL_region fun K hK => ?_; simp (maxSteps := 4000000) only [go_sem]; refine hK _ ?_; clear hK K) | refine walkL_nil ?_ | refine walkL_ret ?_ | refine walkL_exit ?_ | refine blockA_here ?_ | refine blockA_other rfl ?_ | refine blockA_ret ?_ | refine blockA_normal ?_ | refine thenA_ret ?_ | refine thenA_exit ?_ | refine thenA_normal ?_)
          refine ⟨rfl, ?_⟩
          rw [hau]
          simp (maxSteps := 4000000) only [go_sem]
          refine weak_of [] ?_ ?_ rfl rfl <;> simp [lessT, lessM, lessB, AV.less]
      simp (maxSteps := 4000000) only [go_sem]
      repeat (first | refine walkL_seq ?_ | refine walkL_skip ?_ | refine walkL_block ?_ | (refine walkL_region fun K hK => ?_; simp (maxSteps := 4000000) only [go_sem]; refine hK _ ?_; clear hK K) | refine walkL_nil ?_ | refine walkL_ret ?_ | refine walkL_exit ?_ | refine blockA_here ?_ | refine blockA_other rfl ?_ | refine blockA_ret ?_ | refine blockA_normal ?_ | refine thenA_ret ?_ | refine thenA_exit ?_ | refine thenA_normal ?_)
      refine walkL_drawn (by kernel_rfl) (by kernel_rfl) fun K hK => ?_
      simp (maxSteps := 4000000) only [go_sem, g1, hx, List.getElem?_map, Path.row]
      refine ⟨_, .fn (hf := f62 x a (by omega)) (hd := rfl) (hr := .inl rfl), ?_⟩
      simp (maxSteps := 4000000) only [go_sem]
      refine ⟨by kernel_rfl, hK _ ?_⟩
      clear hK K
      repeat (first | refine walkL_seq ?_ | refine walkL_skip ?_ | refine walkL_block ?_ | (refine walkL_region fun K hK => ?_; simp (maxSteps := 4000000) only [go_sem]; refine hK _ ?_; clear hK K) | refine walkL_nil ?_ | refine walkL_ret ?_ | refine walkL_exit ?_ | refine blockA_here ?_ | refine blockA_other rfl ?_ | refine blockA_ret ?_ | refine blockA_normal ?_ | refine thenA_ret ?_ | refine thenA_exit ?_ | refine thenA_normal ?_)
      refine walkL_cond rfl (fun hc => ?_) (fun hc => ?_)
      · have hno : walkedAt n p route waits times start (i + 1) = none := by
          rw [walkedAt, hall, Option.bind_some, hgv, roundW, hpa]
          rw [← ha, if_pos (by simpa using hc)]
        have hf : walkedF n p route start waits times = 1073741824 := by
          have h := walkedAt_none hno (route.length - (i + 1))
          rw [show i + 1 + (route.length - (i + 1)) = route.length from by omega] at h
          rw [walkedF, h]; rfl
        repeat (first | refine walkL_seq ?_ | refine walkL_skip ?_ | refine walkL_block ?_ | (refine walkL_region fun K hK => ?_; simp (maxSteps := 4000000) only [go_sem]; refine hK _ ?_; clear hK K) | refine walkL_nil ?_ | refine walkL_ret ?_ | refine walkL_exit ?_ | refine blockA_here ?_ | refine blockA_other rfl ?_ | refine blockA_ret ?_ | refine blockA_normal ?_ | refine thenA_ret ?_ | refine thenA_exit ?_ | refine thenA_normal ?_)
        simp (maxSteps := 4000000) only [go_sem, hf]
      · have hyes : ∀ c, c = (if i < times.length then getI times i else (spanW x p).hi) → walkedAt n p route waits times start (i + 1) = some (wr (enterF x.opens a + c)) := by
          rintro c rfl
          rw [walkedAt, hall, Option.bind_some, hgv, roundW, hpa]
          rw [← ha, if_neg (by simpa using hc)]
        repeat (first | refine walkL_seq ?_ | refine walkL_skip ?_ | refine walkL_block ?_ | (refine walkL_region fun K hK => ?_; simp (maxSteps := 4000000) only [go_sem]; refine hK _ ?_; clear hK K) | refine walkL_nil ?_ | refine walkL_ret ?_ | refine walkL_exit ?_ | refine blockA_here ?_ | refine blockA_other rfl ?_ | refine blockA_ret ?_ | refine blockA_normal ?_ | refine thenA_ret ?_ | refine thenA_exit ?_ | refine thenA_normal ?_)
        refine walkL_drawn (by kernel_rfl) (by kernel_rfl) fun K hK => ?_
        simp (maxSteps := 4000000) only [go_sem, g1, hx, List.getElem?_map, Path.row]
        refine ⟨_, .fn (hf := f24 n p j x hx) (hd := rfl) (hr := .inl rfl), ?_⟩
        simp (maxSteps := 4000000) only [go_sem, Span.row]
        refine ⟨by kernel_rfl, hK _ ?_⟩
        clear hK K
        repeat (first | refine walkL_seq ?_ | refine walkL_skip ?_ | refine walkL_block ?_ | (refine walkL_region fun K hK => ?_; simp (maxSteps := 4000000) only [go_sem, intRows_len]; refine hK _ ?_; clear hK K) | refine walkL_nil ?_ | refine walkL_ret ?_ | refine walkL_exit ?_ | refine blockA_here ?_ | refine blockA_other rfl ?_ | refine blockA_ret ?_ | refine blockA_normal ?_ | refine thenA_ret ?_ | refine thenA_exit ?_ | refine thenA_normal ?_)
        obtain ⟨c, hcc⟩ : ∃ c, c = (if i < times.length then getI times i else (spanW x p).hi) := ⟨_, rfl⟩
        have hst := hyes c hcc
        refine walkL_meetS [(16, .d (.i c))] [] ?_ ?_
        · refine walkL_cond rfl (fun hd => ?_) (fun hd => ?_)
          · have hd' : i < times.length := by simpa using hd
            obtain ⟨u, hu⟩ : ∃ u, times[i]? = some u := ⟨_, List.getElem?_eq_getElem hd'⟩
            have g2 := intRows_at hu
            have hau : c = u := by rw [hcc, if_pos hd']; simp [getI, List.getD, hu]
            repeat (first | refine walkL_seq ?_ | refine walkL_skip ?_ | refine walkL_block ?_ | (refine walkL_region fun K hK => ?_; simp (maxSteps := 4000000) only [go_sem, g2]; refine hK _ ?_; clear hK K) | refine walkL_nil ?_ | refine walkL_ret ?_ | refine walkL_exit ?_ | refine blockA_here ?_ | refine blockA_other rfl ?_ | refine blockA_ret ?_ | refine blockA_normal ?_ | refine thenA_ret ?_ | refine thenA_exit ?_ | refine thenA_normal ?_)
            refine ⟨rfl, ?_⟩
            rw [hau]
            simp (maxSteps := 4000000) only [go_sem]
            refine weak_of [] ?_ ?_ rfl rfl <;> simp [lessT, lessM, lessB, AV.less]
          · have hd' : ¬ i < times.length := by simpa using hd
            have hau : c = (spanW x p).hi := by rw [hcc, if_neg hd']
            repeat (first | refine walkL_seq ?_ | refine walkL_skip ?_ | refine walkL_block ?_ | (refine walkL_region fun K hK => ?_; simp (maxSteps := 4000000) only [go_sem]; refine hK _ ?_; clear hK K) | refine walkL_nil ?_ | refine walkL_ret ?_ | refine walkL_exit ?_ | refine blockA_here ?_ | refine blockA_other rfl ?_ | refine blockA_ret ?_ | refine blockA_normal ?_ | refine thenA_ret ?_ | refine thenA_exit ?_ | refine thenA_normal ?_)
            refine ⟨rfl, ?_⟩
            rw [hau]
            simp (maxSteps := 4000000) only [go_sem]
            refine weak_of [] ?_ ?_ rfl rfl <;> simp [lessT, lessM, lessB, AV.less]
        simp (maxSteps := 4000000) only [go_sem]
        repeat (first | refine walkL_seq ?_ | refine walkL_skip ?_ | refine walkL_block ?_ | (refine walkL_region fun K hK => ?_; simp (maxSteps := 4000000) only [go_sem, hw]; refine hK _ ?_; clear hK K) | refine walkL_nil ?_ | refine walkL_ret ?_ | refine walkL_exit ?_ | refine blockA_here ?_ | refine blockA_other rfl ?_ | refine blockA_ret ?_ | refine blockA_normal ?_ | refine thenA_ret ?_ | refine thenA_exit ?_ | refine thenA_normal ?_)
        refine ⟨rfl, (i + 1, wr (enterF x.opens a + c)), ?_, ⟨hlt, hst⟩, by dsimp only; omega⟩
        refine weak_of [] ?_ ?_ rfl rfl <;> simp [lessT, lessM, lessB, AV.less]
    · have he : i = route.length := by (have : ¬ i < route.length := by simpa using hb); omega
      subst he
      have hf : walkedF n p route start waits times = t := by rw [walkedF, hall]; rfl
      repeat (first | refine walkL_seq ?_ | refine walkL_skip ?_ | refine walkL_block ?_ | (refine walkL_region fun K hK => ?_; simp (maxSteps := 4000000) only [go_sem]; refine hK _ ?_; clear hK K) | refine walkL_nil ?_ | refine walkL_ret ?_ | refine walkL_exit ?_ | refine blockA_here ?_ | refine blockA_other rfl ?_ | refine blockA_ret ?_ | refine blockA_normal ?_ | refine thenA_ret ?_ | refine thenA_exit ?_ | refine thenA_normal ?_)
      simp (maxSteps := 4000000) only [go_sem, hf]
end Go.Ab
namespace Go.Ab
open Go.RowKit Go.Proofs
set_option maxHeartbeats 4000000
set_option maxRecDepth 20000
attribute [local irreducible] WalkL Walk

theorem f78 (n : Net) (p : Party) (l : List Int) (frm : Int) (hn : n.paths.length < 2 ^ 30) (hs : l.length < 2 ^ 30) : Fn Try.prog 78 [.agg (walkCells n p), .sl (intRows l), .i frm] (.bool (isRouteB n p frm l)) := by
  have hw1 : IntKind.i64.wrap ((n.paths.length : Int) - 1) = n.paths.length - 1 := wr_small (by omega)
  refine fn_walk 51 Try.call78 Try.func78 rfl (by decide) fun J => ?_
  simp (maxSteps := 4000000) only [go_sem, St.start, Try.ntmps78, Try.results78, walkCells]
  repeat (first | refine walkL_seq ?_ | refine walkL_skip ?_ | refine walkL_block ?_ | (refine walkL_region fun K hK => ?_; simp (maxSteps := 4000000) only [go_sem, intRows_len]; refine hK _ ?_; clear hK K) | refine walkL_nil ?_ | refine walkL_ret ?_ | refine walkL_exit ?_ | refine blockA_here ?_ | refine blockA_other rfl ?_ | refine blockA_ret ?_ | refine blockA_normal ?_ | refine thenA_ret ?_ | refine thenA_exit ?_ | refine thenA_normal ?_)
  refine walkL_loopS (fun (a : Nat × Int) => [(11, .d (.i a.1)), (2, .d (.i a.2)), (8, .undef)]) (fun _ => []) (fun a => a.1 ≤ l.length ∧ walkR n p frm (l.take a.1) = some a.2) (fun a => l.length - a.1) (0, frm) ?_ ⟨Nat.zero_le _, rfl⟩ ?_
  · simp (maxSteps := 4000000) only [go_sem]
    refine weak_of [] ?_ ?_ rfl rfl <;> simp [lessT, lessM, lessB, AV.less]
  · intro ⟨i, f⟩ ⟨hi, hall⟩
    dsimp only at hi hall
    simp (maxSteps := 4000000) only [go_sem]
    repeat (first | refine walkL_seq ?_ | refine walkL_skip ?_ | refine walkL_block ?_ | (refine walkL_region fun K hK => ?_; simp (maxSteps := 4000000) only [go_sem]; refine hK _ ?_; clear hK K) | refine walkL_nil ?_ | refine walkL_ret ?_ | refine walkL_exit ?_ | refine blockA_here ?_ | refine blockA_other rfl ?_ | refine blockA_ret ?_ | refine blockA_normal ?_ | refine thenA_ret ?_ | refine thenA_exit ?_ | refine thenA_normal ?_)
    refine walkL_cond rfl (fun hb => ?_) (fun hb => ?_)
    · have hlt : i < l.length := by simpa using hb
      have hw : IntKind.i64.wrap ((i : Int) + 1) = ((i + 1 : Nat) : Int) := by rw [wr_small (by omega)]; simp
      obtain ⟨v, hv⟩ : ∃ v, l[i]? = some v := ⟨_, List.getElem?_eq_getElem hlt⟩
      have g1 := intRows_at hv
      have hsu := walkR_succ hv hall
      by_cases hin : withinB v 0 (n.paths.length - 1) = true
      · obtain ⟨hv0, hv1⟩ := within_iff.1 hin
        obtain ⟨j, rfl⟩ : ∃ j : Nat, v = (j : Int) := ⟨v.toNat, by omega⟩
        obtain ⟨x, hx⟩ : ∃ x, n.paths[j]? = some x := ⟨_, List.getElem?_eq_getElem (by omega)⟩
        have h74 := f74 n p j x hx
        have hon : onB n p f j = if x.grade ≤ p.grade ∧ x.frm = f then some x.to else none := by simp [onB, hin, hx]
        repeat (first | refine walkL_seq ?_ | refine walkL_skip ?_ | refine walkL_block ?_ | (refine walkL_region fun K hK => ?_; simp (maxSteps := 4000000) only [go_sem, g1]; refine hK _ ?_; clear hK K) | refine walkL_nil ?_ | refine walkL_ret ?_ | refine walkL_exit ?_ | refine blockA_here ?_ | refine blockA_other rfl ?_ | refine blockA_ret ?_ | refine blockA_normal ?_ | refine thenA_ret ?_ | refine thenA_exit ?_ | refine thenA_normal ?_)
        refine walkL_meetS [(39, .d (.bool (!withinB (j : Int) 0 (n.paths.length - 1) || (!decide (x.grade ≤ p.grade) || x.frm != f))))] [] ?_ ?_
        · refine walkL_region fun K hK => ?_
          simp (maxSteps := 4000000) only [go_sem, g1, hw1, hx, List.getElem?_map, Path.row]
          refine ⟨_, .lent (hf := f65 j 0 (n.paths.length - 1)) (hd := rfl) (hr := rfl), ?_⟩
          simp (maxSteps := 4000000) only [go_sem, g1, hw1, hx, List.getElem?_map, Path.row]
          by_cases ho0 : (!withinB (j : Int) 0 (n.paths.length - 1)) = true
          · simp (maxSteps := 4000000) only [go_sem, g1, hw1, hx, List.getElem?_map, Path.row, ho0]
            refine hK _ ?_
            clear hK K
            refine walkL_nil ?_
            refine thenA_normal ?_
            refine ⟨rfl, ?_⟩
            rw [show (!withinB (j : Int) 0 (n.paths.length - 1) || (!decide (x.grade ≤ p.grade) || x.frm != f)) = (true) from by simp [ho0]]
            simp (maxSteps := 4000000) only [go_sem]
            refine weak_of [] ?_ ?_ rfl rfl <;> simp [lessT, lessM, lessB, AV.less]
          · simp (maxSteps := 4000000) only [go_sem, g1, hw1, hx, List.getElem?_map, Path.row, ho0]
            refine ⟨_, .lent (hf := h74) (hd := rfl) (hr := rfl), ?_⟩
            simp (maxSteps := 4000000) only [go_sem, g1, hw1, hx, List.getElem?_map, Path.row, ho0]
            by_cases ho1 : (!decide (x.grade ≤ p.grade)) = true
            · simp (maxSteps := 4000000) only [go_sem, g1, hw1, hx, List.getElem?_map, Path.row, ho0, ho1]
              refine hK _ ?_
              clear hK K
              refine walkL_nil ?_
              refine thenA_normal ?_
              refine ⟨rfl, ?_⟩
              rw [show (!withinB (j : Int) 0 (n.paths.length - 1) || (!decide (x.grade ≤ p.grade) || x.frm != f)) = (true) from by simp [ho0, ho1]]
              simp (maxSteps := 4000000) only [go_sem]
              refine weak_of [] ?_ ?_ rfl rfl <;> simp [lessT, lessM, lessB, AV.less]
            · simp (maxSteps := 4000000) only [go_sem, g1, hw1, hx, List.getElem?_map, Path.row, ho0, ho1]
              refine hK _ ?_
              clear hK K
              refine walkL_nil ?_
              refine thenA_normal ?_
              refine ⟨rfl, ?_⟩
              rw [show (!withinB (j : Int) 0 (n.paths.length - 1) || (!decide (x.grade ≤ p.grade) || x.frm != f)) = (x.frm != f) from by simp [ho0, ho1]]
              simp (maxSteps := 4000000) only [go_sem]
              refine weak_of [] ?_ ?_ rfl rfl <;> simp [lessT, lessM, lessB, AV.less]
        simp (maxSteps := 4000000) only [go_sem]
        refine walkL_cond rfl (fun hc => ?_) (fun hc => ?_)
        · have hno : walkR n p frm l = none := by
            refine walkR_stop (i := i + 1) ?_
            rw [hsu, hon, if_neg]
            rintro ⟨h1, h2⟩
            simp [hin, h1, h2] at hc
          have hf : isRouteB n p frm l = false := by simp [isRouteB, hno]
          repeat (first | refine walkL_seq ?_ | refine walkL_skip ?_ | refine walkL_block ?_ | (refine walkL_region fun K hK => ?_; simp (maxSteps := 4000000) only [go_sem]; refine hK _ ?_; clear hK K) | refine walkL_nil ?_ | refine walkL_ret ?_ | refine walkL_exit ?_ | refine blockA_here ?_ | refine blockA_other rfl ?_ | refine blockA_ret ?_ | refine blockA_normal ?_ | refine thenA_ret ?_ | refine thenA_exit ?_ | refine thenA_normal ?_)
          simp (maxSteps := 4000000) only [go_sem, hf]
        · have hyes : x.grade ≤ p.grade ∧ x.frm = f := by simpa [hin] using hc
          rw [hon, if_pos hyes] at hsu
          repeat (first | refine walkL_seq ?_ | refine walkL_skip ?_ | refine walkL_block ?_ | (refine walkL_region fun K hK => ?_; simp (maxSteps := 4000000) only [go_sem, g1, hw, hx, List.getElem?_map, Path.row]; refine hK _ ?_; clear hK K) | refine walkL_nil ?_ | refine walkL_ret ?_ | refine walkL_exit ?_ | refine blockA_here ?_ | refine blockA_other rfl ?_ | refine blockA_ret ?_ | refine blockA_normal ?_ | refine thenA_ret ?_ | refine thenA_exit ?_ | refine thenA_normal ?_)
          refine ⟨rfl, (i + 1, x.to), ?_, ⟨hlt, hsu⟩, by dsimp only; omega⟩
          refine weak_of [] ?_ ?_ rfl rfl <;> simp [lessT, lessM, lessB, AV.less]
      · have hin' : withinB v 0 (n.paths.length - 1) = false := by simpa using hin
        have hno : walkR n p frm l = none := by
          refine walkR_stop (i := i + 1) ?_
          rw [hsu, onB, if_neg hin]
        have hf : isRouteB n p frm l = false := by simp [isRouteB, hno]
        repeat (first | refine walkL_seq ?_ | refine walkL_skip ?_ | refine walkL_block ?_ | (refine walkL_region fun K hK => ?_; simp (maxSteps := 4000000) only [go_sem, g1, hw1, hin']; (repeat (first | (refine ⟨_, .lent (hf := f65 v 0 (n.paths.length - 1)) (hd := rfl) (hr := rfl), ?_⟩; simp (maxSteps := 4000000) only [go_sem, g1, hw1, hin']) | (refine ⟨_, .given (hf := f65 v 0 (n.paths.length - 1)) (hd := rfl) (ha := rfl), ?_⟩; simp (maxSteps := 4000000) only [go_sem, g1, hw1, hin']))); refine hK _ ?_; clear hK K) | refine walkL_nil ?_ | refine walkL_ret ?_ | refine walkL_exit ?_ | refine blockA_here ?_ | refine blockA_other rfl ?_ | refine blockA_ret ?_ | refine blockA_normal ?_ | refine thenA_ret ?_ | refine thenA_exit ?_ | refine thenA_normal ?_)
        refine walkL_true rfl ?_
        repeat (first | refine walkL_seq ?_ | refine walkL_skip ?_ | refine walkL_block ?_ | (refine walkL_region fun K hK => ?_; simp (maxSteps := 4000000) only [go_sem]; refine hK _ ?_; clear hK K) | refine walkL_nil ?_ | refine walkL_ret ?_ | refine walkL_exit ?_ | refine blockA_here ?_ | refine blockA_other rfl ?_ | refine blockA_ret ?_ | refine blockA_normal ?_ | refine thenA_ret ?_ | refine thenA_exit ?_ | refine thenA_normal ?_)
        simp (maxSteps := 4000000) only [go_sem, hf]
    · have he : i = l.length := by (have : ¬ i < l.length := by simpa using hb); omega
      subst he
      rw [List.take_length] at hall
      have hf : isRouteB n p frm l = decide ((l.length : Int) ≤ 30) := by simp [isRouteB, hall]
      repeat (first | refine walkL_seq ?_ | refine walkL_skip ?_ | refine walkL_block ?_ | (refine walkL_region fun K hK => ?_; simp (maxSteps := 4000000) only [go_sem]; refine hK _ ?_; clear hK K) | refine walkL_nil ?_ | refine walkL_ret ?_ | refine walkL_exit ?_ | refine blockA_here ?_ | refine blockA_other rfl ?_ | refine blockA_ret ?_ | refine blockA_normal ?_ | refine thenA_ret ?_ | refine thenA_exit ?_ | refine thenA_normal ?_)
      simp (maxSteps := 4000000) only [go_sem, hf, intRows_len]
end Go.Ab
