/- A walk engine over abstract states, and the contracts of the functions that the statement reaches: part 6. -/
import Derived.Test.YtnlodbjgmfmlnaaGreatWe
set_option linter.unusedVariables false
set_option linter.unusedSimpArgs false
set_option linter.unnecessarySimpa false
namespace Go.Ab
open Go.RowKit Go.Proofs
set_option maxHeartbeats 8000000
set_option maxRecDepth 40000
attribute [local irreducible] WalkL Walk
def exG : Grid := ⟨exP, exF, 6⟩
theorem ex_open : openE exP [] = 0 := by kernel_rfl
theorem ex_grid : gridOf exP = exG := by kernel_rfl
theorem ex_planG : planG exG = some ([0, 0, 0, 0, 1, 1], 2) := by kernel_rfl
theorem ex_planP : planP exP = ([0, 0, 0, 0, 1, 1], 2, 0) := by
  unfold planP
  rw [if_pos ex_open, ex_grid, ex_planG]
theorem exP_small : PlantSmall exP := by
  refine ⟨⟨by decide, fun l hl => ?_⟩, by decide, by decide, by decide⟩
  simp only [exP, exF, List.mem_cons, List.not_mem_nil, or_false] at hl
  rcases hl with rfl | rfl <;> decide
theorem ex_look : lookF exF [] 0 true = 0 := by kernel_rfl
theorem ex_nums : numsOf (possL exF []) = [0, 1] := by kernel_rfl
theorem zf32 : Fn Tryz.prog 32 [] (.bool true) := by
  have h76 := zf76
  have h35 := zf35 exP exP_small
  have h49 := zf49
  have h28 := zf28 exS exS_small exS_ok
  have h34 := zf34 exF [] exP_small.fore (by decide)
  rw [ex_planP] at h35
  rw [exS_plan.1, exS_plan.2] at h28
  rw [ex_look, if_pos rfl, ex_nums] at h34
  obtain ⟨T, hT⟩ : ∃ T, T = tripRows (planS exS).1 := ⟨_, rfl⟩
  rw [← hT] at h28
  have hi : intRows [0, 1] = [[.i 0], [.i 1]] := rfl
  have hs0 : sightRows [] = [] := rfl
  have hpc : exP.cells = [.sl (scenRows exF), .sl (sightRows []), .sl (intRows exP.sun), .i exP.gain, .i exP.start, .i exP.stop, .i exP.charge, .i exP.capacity, .i exP.reserve, .i exP.gas, .i exP.rate, .i exP.units, .sl (intRows exP.needs)] := rfl
  rw [hpc] at h35 h76
  rw [hs0] at h34 h35 h76
  rw [hi] at h34
  rw [Supply.cells] at h28 h49
  obtain ⟨F, hF⟩ : ∃ F, F = scenRows exS.scen := ⟨_, rfl⟩
  obtain ⟨C, hC⟩ : ∃ C, C = carrRows exS.carr := ⟨_, rfl⟩
  obtain ⟨G, hG⟩ : ∃ G, G = sightRows exS.seen := ⟨_, rfl⟩
  rw [← hF, ← hC, ← hG] at h28 h49
  obtain ⟨E, hE⟩ : ∃ E, E = scenRows exF := ⟨_, rfl⟩
  rw [← hE] at h34 h35 h76
  obtain ⟨U1, hU1⟩ : ∃ U, U = intRows exP.sun := ⟨_, rfl⟩
  obtain ⟨U2, hU2⟩ : ∃ U, U = intRows exP.needs := ⟨_, rfl⟩
  rw [← hU1, ← hU2] at h35 h76
  obtain ⟨B, hB⟩ : ∃ B, B = intRows [0, 0, 0, 0, 1, 1] := ⟨_, rfl⟩
  dsimp only at h35
  rw [← hB] at h35
  refine fn_walk 50 Tryz.call32 Tryz.func32 rfl (by decide) fun J => ?_
  simp (maxSteps := 4000000) only [go_sem, St.start, Tryz.ntmps32, Tryz.results32]
  repeat (first | refine walkL_true rfl ?_ | refine walkL_false rfl ?_ | refine walkL_seq ?_ | refine walkL_skip ?_ | refine walkL_block ?_ | (refine walkL_region fun K hK => ?_; simp (maxSteps := 4000000) only [go_sem]; (repeat (first | (refine ⟨_, .lent (hf := h76) (hd := rfl) (hr := rfl), ?_⟩; simp (maxSteps := 4000000) only [go_sem]) | (refine ⟨_, .lent (hf := h35) (hd := rfl) (hr := rfl), ?_⟩; simp (maxSteps := 4000000) only [go_sem]) | (refine ⟨_, .lent (hf := h49) (hd := rfl) (hr := rfl), ?_⟩; simp (maxSteps := 4000000) only [go_sem]) | (refine ⟨_, .lent (hf := h28) (hd := rfl) (hr := rfl), ?_⟩; simp (maxSteps := 4000000) only [go_sem]) | (refine ⟨_, .lent (hf := h34) (hd := rfl) (hr := rfl), ?_⟩; simp (maxSteps := 4000000) only [go_sem]) | (refine ⟨_, .given (hf := h76) (hd := rfl) (ha := rfl), ?_⟩; simp (maxSteps := 4000000) only [go_sem]) | (refine ⟨_, .given (hf := h35) (hd := rfl) (ha := rfl), ?_⟩; simp (maxSteps := 4000000) only [go_sem]) | (refine ⟨_, .given (hf := h49) (hd := rfl) (ha := rfl), ?_⟩; simp (maxSteps := 4000000) only [go_sem]) | (refine ⟨_, .given (hf := h28) (hd := rfl) (ha := rfl), ?_⟩; simp (maxSteps := 4000000) only [go_sem]) | (refine ⟨_, .given (hf := h34) (hd := rfl) (ha := rfl), ?_⟩; simp (maxSteps := 4000000) only [go_sem]))); refine hK _ ?_; clear hK K) | refine walkL_nil ?_ | refine walkL_ret ?_ | refine walkL_exit ?_ | refine blockA_here ?_ | refine blockA_other rfl ?_ | refine blockA_ret ?_ | refine blockA_normal ?_ | refine thenA_ret ?_ | refine thenA_exit ?_ | refine thenA_normal ?_)
  simp (maxSteps := 4000000) only [go_sem]
end Go.Ab
namespace Go.Ab
open Go.RowKit Go.Proofs
def oneP (p : Plant) (l : List Hour) : Plant := { p with scen := [l] }
theorem one_poss {seen : List Sight} {l : List Hour} (h : agreesB seen l = true) : possL [l] seen = [(0, seenHours seen l)] := by
  rw [possL, possFrom, if_pos h, possFrom]
theorem one_scens {p : Plant} {l : List Hour} (h : agreesB p.seen l = true) : (gridOf (oneP p l)).scen = [seenHours p.seen l] := by
  change scensOf (possL [l] p.seen) = _
  rw [one_poss h]
  rfl
theorem one_ok {p : Plant} (h0 : plantE p = 0) {l : List Hour} (hl : l ∈ p.scen) (ha : agreesB p.seen l = true) : plantE (oneP p l) = 0 := by
  have hg := plant_good h0
  have hll := hg.fore.len l hl
  have hlk : lookF [l] p.seen 0 true = 0 := by
    refine look_mk ⟨by simp, ?_, ?_, ?_⟩ ?_ ?_
    · change 1 ≤ l.length ∧ l.length ≤ 48
      rw [hll]; exact hg.fore.hours
    · intro x hx
      rw [List.mem_singleton] at hx
      rw [hx]; rfl
    · intro x hx
      rw [List.mem_singleton] at hx
      rw [hx]; exact hg.fore.hour l hl
    · change sightsB (l.length : Int) p.seen = true
      rw [hll]; exact hg.sights
    · rw [one_poss ha]; simp
  have hh : hoursOf (oneP p l) = hoursOf p := by
    change (l.length : Int) = (hd0 p.scen).length
    rw [hll]
  unfold plantE at h0 ⊢
  rw [show lookF (oneP p l).scen (oneP p l).seen 0 true = 0 from hlk, if_pos rfl, hh]
  split at h0
  · exact h0
  · rename_i hx; exact absurd h0 hx
theorem one_lv (p : Plant) (l : List Hour) (burn : List Int) (m : List Sky) : ∀ k, lvAt (oneP p l) burn m k = lvAt p burn m k
  | 0 => rfl
  | k + 1 => by
    rw [lvAt, lvAt, one_lv p l burn m k]
    rfl
theorem one_least (p : Plant) (l m : List Hour) : leastW (oneP p l) m = leastW p m := rfl
theorem one_lasts (p : Plant) (l : List Hour) (burn : List Int) (m : List Sky) : lastsW (oneP p l) burn m = lastsW p burn m := by
  unfold lastsW
  congr 1
  funext j
  rw [one_lv]
  rfl
theorem one_burn (p : Plant) (l : List Hour) (b : List Int) : isBurnB (oneP p l) b = isBurnB p b := rfl
def lastN (p : Plant) (burn : List Int) (l : List Hour) : Nat := lastsW p burn (leastW p (seenHours p.seen l))
theorem one_hard {p : Plant} (h0 : plantE p = 0) {l : List Hour} (hl : l ∈ p.scen) (ha : agreesB p.seen l = true) (burn : List Int) : (hardF (gridOf (oneP p l)) burn).2 = lastN p burn l := by
  have hg1 := plant_good (one_ok h0 hl ha)
  obtain ⟨H, hG, _⟩ := grid_good hg1
  obtain ⟨_, _, l', hl', _, he⟩ := hardF_range hG burn
  rw [one_scens ha, List.mem_singleton] at hl'
  rw [he, hl']
  change (lastsW (oneP p l) burn (leastW (oneP p l) _) : Int) = _
  rw [one_lasts, one_least]
  rfl
theorem one_all {p : Plant} {l : List Hour} (hl : l ∈ p.scen) (ha : agreesB p.seen l = true) {b : List Int} (hb : LastsAll p b) : LastsAll (oneP p l) b := by
  intro l' hl' j hj
  rw [one_scens ha, List.mem_singleton] at hl'
  rw [one_lv, one_least, hl']
  refine hb _ ?_ j hj
  exact scens_mem.2 ⟨l, hl, ha, rfl⟩
theorem plan_one {p : Plant} (h0 : plantE p = 0) {l : List Hour} (hl : l ∈ p.scen) (ha : agreesB p.seen l = true) (hp : (planP p).2.2 = 0) : (planP (oneP p l)).2.2 = 0 ∧ (planP (oneP p l)).2.1 ≤ (planP p).2.1 := by
  have hg := plant_good h0
  have h1 := one_ok h0 hl ha
  have hg1 := plant_good h1
  rcases plan_spec hg h0 with ⟨b, u, e, hs, hall⟩ | ⟨e, _⟩
  · have hbb : isBurnB (oneP p l) b = true := hs.isBurn
    have hb1 := one_all hl ha hall
    rcases plan_spec hg1 h1 with ⟨b', u', e', hs', hall'⟩ | ⟨e', hno⟩
    · rw [e, e']
      refine ⟨rfl, ?_⟩
      have hlate := hs'.late b hbb hb1 (oneP p l).sun.length (Nat.le_refl _)
      have q1 : preB b' (oneP p l).sun.length = u' := by rw [← hs'.len, pre_all, hs'.sum]
      have q2 : preB b (oneP p l).sun.length = u := by
        have : (oneP p l).sun.length = b.length := hs.len.symm
        rw [this, pre_all, hs.sum]
      dsimp only
      omega
    · exact absurd hb1 (hno b hbb)
  · rw [e] at hp; cases hp
def minN (p : Plant) (burn : List Int) (ns : List Int) : Int := ns.foldl (fun a k => min a (lastN p burn (scenAt p.scen k) : Int)) burn.length
theorem fold_min_le {f : Int → Int} {G : Int} : ∀ (ns : List Int) (a : Int), G ≤ ns.foldl (fun a k => min a (f k)) a ↔ G ≤ a ∧ ∀ k ∈ ns, G ≤ f k
  | [], a => by simp
  | k :: ns, a => by
    rw [List.foldl_cons, fold_min_le ns]
    simp only [List.mem_cons, forall_eq_or_imp]
    constructor
    · rintro ⟨h1, h2⟩; exact ⟨by omega, by omega, h2⟩
    · rintro ⟨h1, h2, h3⟩; exact ⟨by omega, h3⟩
theorem min_all {p : Plant} (h0 : plantE p = 0) {burn : List Int} (hb : isBurnB p burn = true) : (hardF (gridOf p) burn).2 = minN p burn (numsOf (possL p.scen p.seen)) := by
  have hg := plant_good h0
  obtain ⟨H, hG, hHh⟩ := grid_good hg
  obtain ⟨r1, r2, l', hl', _, he⟩ := hardF_range hG burn
  have hle := hard_le (gridOf p) burn
  have hbl := (isBurn_iff.1 hb).2.1
  have hH : (H : Int) = p.sun.length := by rw [hHh, hoursOf, hg.sun]
  have key := fun G => fold_min_le (f := fun k => (lastN p burn (scenAt p.scen k) : Int)) (G := G) (numsOf (possL p.scen p.seen)) (burn.length : Int)
  have sc : ∀ (i : Nat) l, p.scen[i]? = some l → scenAt p.scen (i : Int) = l := fun i l h => by rw [scenAt, Int.toNat_natCast, List.getD, h]; rfl
  have a1 : (hardF (gridOf p) burn).2 ≤ minN p burn (numsOf (possL p.scen p.seen)) := by
    refine (key _).2 ⟨by omega, fun k hk => ?_⟩
    obtain ⟨i, l, rfl, hi, ha⟩ := nums_mem.1 hk
    rw [sc i l hi]
    exact hle _ (scens_mem.2 ⟨l, List.mem_of_getElem? hi, ha, rfl⟩)
  have a2 : minN p burn (numsOf (possL p.scen p.seen)) ≤ (hardF (gridOf p) burn).2 := by
    obtain ⟨l, hl, ha, rfl⟩ := scens_mem.1 hl'
    obtain ⟨i, hi⟩ := List.getElem?_of_mem hl
    have h2 := ((key (minN p burn (numsOf (possL p.scen p.seen)))).1 (Int.le_refl _)).2 (i : Int) (nums_mem.2 ⟨i, l, rfl, hi, ha⟩)
    rw [sc i l hi] at h2
    rw [he]
    exact h2
  omega
end Go.Ab
namespace Go.Ab
open Go.RowKit Go.Proofs
set_option maxHeartbeats 16000000
set_option maxRecDepth 20000
attribute [local irreducible] WalkL Walk
def badSc (p : Plant) (b : List Int) : Bool := far10 p || (plantE p != 0 || (decide ((b.length : Int) > 100) || !isBurnB p b))
theorem zf7 (p : Plant) (b : List Int) (hs : PlantSmall p) (hbl : b.length < 2 ^ 30) : Fn Tryz.prog 7 [.agg p.cells, .sl (intRows b)] (.bool true) := by
  have h29 := zf29 p hs
  have h30 := zf30 p hs
  have h32 := zf32
  have h31 : plantE p = 0 → Fn Tryz.prog 31 [.agg p.cells, .sl (intRows b)] (.bool (isBurnB p b)) := fun h => zf31 p b (by have := (plant_good h).rate; omega) hbl
  have h33 := zf33 p b hs hbl
  have h34 := zf34 p.scen p.seen hs.fore hs.seen
  have h35 := zf35 p hs
  have h36 := zf36 p hs
  rw [Plant.cells] at h29 h30 h31 h33 h35 h36
  refine fn_walk 155 Tryz.call7 Tryz.func7 rfl (by decide) fun J => ?_
  simp (maxSteps := 4000000) only [go_sem, St.start, Tryz.ntmps7, Tryz.results7, Plant.cells]
  repeat (first | refine walkL_seq ?_ | refine walkL_skip ?_ | refine walkL_block ?_ | (refine walkL_region fun K hK => ?_; simp (maxSteps := 4000000) only [go_sem]; refine hK _ ?_; clear hK K) | refine walkL_nil ?_ | refine walkL_ret ?_ | refine walkL_exit ?_ | refine blockA_here ?_ | refine blockA_other rfl ?_ | refine blockA_ret ?_ | refine blockA_normal ?_ | refine thenA_ret ?_ | refine thenA_exit ?_ | refine thenA_normal ?_)
  refine walkL_meetS [(37, .d (.bool (badSc p b)))] [] ?_ ?_
  · refine walkL_region fun K hK => ?_
    simp (maxSteps := 4000000) only [go_sem, intRows_len]
    refine ⟨_, .lent (hf := h29) (hd := rfl) (hr := rfl), ?_⟩
    simp (maxSteps := 4000000) only [go_sem, intRows_len]
    by_cases ho0 : (far10 p) = true
    · simp (maxSteps := 4000000) only [go_sem, intRows_len, ho0]
      refine hK _ ?_
      clear hK K
      refine walkL_nil ?_
      refine thenA_normal ?_
      refine ⟨rfl, ?_⟩
      rw [show (badSc p b) = (true) from by simp [badSc, ho0]]
      simp (maxSteps := 4000000) only [go_sem]
      refine weak_of [] ?_ ?_ rfl rfl <;> simp [lessT, lessM, lessB, AV.less]
    · simp (maxSteps := 4000000) only [go_sem, intRows_len, ho0]
      refine ⟨_, .lent (hf := h30) (hd := rfl) (hr := rfl), ?_⟩
      simp (maxSteps := 4000000) only [go_sem, intRows_len, ho0]
      by_cases ho1 : (plantE p != 0) = true
      · simp (maxSteps := 4000000) only [go_sem, intRows_len, ho0, ho1]
        refine hK _ ?_
        clear hK K
        refine walkL_nil ?_
        refine thenA_normal ?_
        refine ⟨rfl, ?_⟩
        rw [show (badSc p b) = (true) from by simp [badSc, ho0, ho1]]
        simp (maxSteps := 4000000) only [go_sem]
        refine weak_of [] ?_ ?_ rfl rfl <;> simp [lessT, lessM, lessB, AV.less]
      · simp (maxSteps := 4000000) only [go_sem, intRows_len, ho0, ho1]
        by_cases ho2 : (decide ((b.length : Int) > 100)) = true
        · simp (maxSteps := 4000000) only [go_sem, intRows_len, ho0, ho1, ho2]
          refine hK _ ?_
          clear hK K
          refine walkL_nil ?_
          refine thenA_normal ?_
          refine ⟨rfl, ?_⟩
          rw [show (badSc p b) = (true) from by simp [badSc, ho0, ho1, ho2]]
          simp (maxSteps := 4000000) only [go_sem]
          refine weak_of [] ?_ ?_ rfl rfl <;> simp [lessT, lessM, lessB, AV.less]
        · simp (maxSteps := 4000000) only [go_sem, intRows_len, ho0, ho1, ho2]
          refine ⟨_, .lent (hf := h31 (by simpa using ho1)) (hd := rfl) (hr := rfl), ?_⟩
          simp (maxSteps := 4000000) only [go_sem, intRows_len, ho0, ho1, ho2]
          refine hK _ ?_
          clear hK K
          refine walkL_nil ?_
          refine thenA_normal ?_
          refine ⟨rfl, ?_⟩
          rw [show (badSc p b) = (!isBurnB p b) from by simp [badSc, ho0, ho1, ho2]]
          simp (maxSteps := 4000000) only [go_sem]
          refine weak_of [] ?_ ?_ rfl rfl <;> simp [lessT, lessM, lessB, AV.less]
  simp (maxSteps := 4000000) only [go_sem]
  repeat (first | refine walkL_seq ?_ | refine walkL_skip ?_ | refine walkL_block ?_ | (refine walkL_region fun K hK => ?_; simp (maxSteps := 4000000) only [go_sem]; refine hK _ ?_; clear hK K) | refine walkL_nil ?_ | refine walkL_ret ?_ | refine walkL_exit ?_ | refine blockA_here ?_ | refine blockA_other rfl ?_ | refine blockA_ret ?_ | refine blockA_normal ?_ | refine thenA_ret ?_ | refine thenA_exit ?_ | refine thenA_normal ?_)
  refine walkL_cond rfl (fun hc => ?_) (fun hc => ?_)
  · repeat (first | refine walkL_seq ?_ | refine walkL_skip ?_ | refine walkL_block ?_ | (refine walkL_region fun K hK => ?_; simp (maxSteps := 4000000) only [go_sem]; (repeat (first | (refine ⟨_, .lent (hf := h32) (hd := rfl) (hr := rfl), ?_⟩; simp (maxSteps := 4000000) only [go_sem]) | (refine ⟨_, .given (hf := h32) (hd := rfl) (ha := rfl), ?_⟩; simp (maxSteps := 4000000) only [go_sem]))); refine hK _ ?_; clear hK K) | refine walkL_nil ?_ | refine walkL_ret ?_ | refine walkL_exit ?_ | refine blockA_here ?_ | refine blockA_other rfl ?_ | refine blockA_ret ?_ | refine blockA_normal ?_ | refine thenA_ret ?_ | refine thenA_exit ?_ | refine thenA_normal ?_)
    simp (maxSteps := 4000000) only [go_sem]
  · have hbad := hc
    simp only [badSc, Bool.or_eq_false_iff, Bool.not_eq_false', decide_eq_false_iff_not, bne_eq_false_iff_eq] at hbad
    obtain ⟨b1, b2, b3, b4⟩ := hbad
    have hg := plant_good b2
    have hlk : lookF p.scen p.seen 0 true = 0 := look_mk hg.fore hg.sights hg.poss
    have hopen : openE p [b] = 0 := by rw [open_burn b2, b4]; rfl
    rw [hlk, if_pos rfl] at h34
    rw [lastsP, if_pos hopen, min_all b2 b4] at h33
    dsimp only at h33
    obtain ⟨N, hN⟩ : ∃ N, N = numsOf (possL p.scen p.seen) := ⟨_, rfl⟩
    rw [← hN] at h33 h34
    have hNm : ∀ k ∈ N, ∃ (i : Nat) (l : List Hour), k = i ∧ p.scen[i]? = some l ∧ agreesB p.seen l = true := fun k hk => nums_mem.1 (by rw [← hN]; exact hk)
    have hN0 : N ≠ [] := by
      rw [hN]
      intro hx
      have := hg.poss
      rw [numsOf] at hx
      exact this (by simpa using hx)
    have hN1 : N.length ≤ p.scen.length := by
      rw [hN, numsOf, List.length_map]
      exact possFrom_len _ _ _
    have hF := hg.fore.scen
    obtain ⟨T, u, e, hp, he⟩ : ∃ T u e, planP p = (T, u, e) ∧ (e = 0 ∨ e = 3) := by
      rcases plan_spec hg b2 with ⟨c, u, h, _⟩ | ⟨h, _⟩
      · exact ⟨_, _, _, h, .inl rfl⟩
      · exact ⟨_, _, _, h, .inr rfl⟩
    have hone : ∀ (i : Nat) (l : List Hour), p.scen[i]? = some l → agreesB p.seen l = true → Fn Tryz.prog 33 [.agg (oneP p l).cells, .sl (intRows b)] (.tup [.i (lastN p b l : Int), .i 0]) ∧
        ∃ T' u' e', Fn Tryz.prog 35 [.agg (oneP p l).cells] (.tup [.sl (intRows T'), .i u', .i e']) ∧ (e = 0 → e' = 0 ∧ u' ≤ u) := fun i l hi ha => by
      have hl := List.mem_of_getElem? hi
      have h1 := one_ok b2 hl ha
      have hs1 : PlantSmall (oneP p l) := ⟨⟨by show ([l] : List (List Hour)).length < 2 ^ 30; simp, fun x hx => by rw [List.mem_singleton.1 hx]; exact hs.fore.hours l hl⟩, hs.seen, hs.sun, hs.needs⟩
      have ho1 : openE (oneP p l) [b] = 0 := by rw [open_burn h1, one_burn, b4]; rfl
      have k33 := zf33 (oneP p l) b hs1 hbl
      rw [lastsP, if_pos ho1, one_hard b2 hl ha] at k33
      have k35 := zf35 (oneP p l) hs1
      refine ⟨k33, _, _, _, k35, fun h => ?_⟩
      have := plan_one b2 hl ha (by rw [hp]; exact h)
      rw [hp] at this
      exact this
    rw [hp] at h35
    dsimp only at h35
    have q1 : ((N.length : Int) == 0) = false := by
      have := List.length_pos_iff.2 hN0
      simp only [beq_eq_false_iff_ne, ne_eq]
      omega
    have q2 : (e != 3) = (e == 0) := by rcases he with rfl | rfl <;> rfl
    have M0 : ((b.length : Nat) : Int) = minN p b (N.take 0) := rfl
    rcases he with rfl | rfl
    · repeat (first | refine walkL_true rfl ?_ | refine walkL_false rfl ?_ | refine walkL_seq ?_ | refine walkL_skip ?_ | refine walkL_block ?_ | (refine walkL_region fun K hK => ?_; simp (maxSteps := 4000000) only [go_sem, intRows_len, q1]; (repeat (first | (refine ⟨_, .lent (hf := h33) (hd := rfl) (hr := rfl), ?_⟩; simp (maxSteps := 4000000) only [go_sem, intRows_len, q1]) | (refine ⟨_, .lent (hf := h34) (hd := rfl) (hr := rfl), ?_⟩; simp (maxSteps := 4000000) only [go_sem, intRows_len, q1]) | (refine ⟨_, .lent (hf := h35) (hd := rfl) (hr := rfl), ?_⟩; simp (maxSteps := 4000000) only [go_sem, intRows_len, q1]) | (refine ⟨_, .given (hf := h33) (hd := rfl) (ha := rfl), ?_⟩; simp (maxSteps := 4000000) only [go_sem, intRows_len, q1]) | (refine ⟨_, .given (hf := h34) (hd := rfl) (ha := rfl), ?_⟩; simp (maxSteps := 4000000) only [go_sem, intRows_len, q1]) | (refine ⟨_, .given (hf := h35) (hd := rfl) (ha := rfl), ?_⟩; simp (maxSteps := 4000000) only [go_sem, intRows_len, q1]))); refine hK _ ?_; clear hK K) | refine walkL_nil ?_ | refine walkL_ret ?_ | refine walkL_exit ?_ | refine blockA_here ?_ | refine blockA_other rfl ?_ | refine blockA_ret ?_ | refine blockA_normal ?_ | refine thenA_ret ?_ | refine thenA_exit ?_ | refine thenA_normal ?_)
      refine walkL_loopS (fun (i : Nat) => [(13, .d (.i (i : Int))), (12, .d (.i (minN p b (N.take i))))]) (fun _ => []) (fun i => i ≤ N.length) (fun i => N.length - i) 0 ?_ (Nat.zero_le _) ?_
      · rw [← M0]
        simp (maxSteps := 4000000) only [go_sem]
        refine weak_of [] ?_ ?_ rfl rfl <;> simp [lessT, lessM, lessB, AV.less]
      · intro i hi
        simp (maxSteps := 4000000) only [go_sem]
        repeat (first | refine walkL_seq ?_ | refine walkL_skip ?_ | refine walkL_block ?_ | (refine walkL_region fun K hK => ?_; simp (maxSteps := 4000000) only [go_sem, intRows_len]; refine hK _ ?_; clear hK K) | refine walkL_nil ?_ | refine walkL_ret ?_ | refine walkL_exit ?_ | refine blockA_here ?_ | refine blockA_other rfl ?_ | refine blockA_ret ?_ | refine blockA_normal ?_ | refine thenA_ret ?_ | refine thenA_exit ?_ | refine thenA_normal ?_)
        refine walkL_cond rfl (fun hb => ?_) (fun hb => ?_)
        · have hlt : i < N.length := by simpa using hb
          have hw : IntKind.i64.wrap ((i : Int) + 1) = ((i + 1 : Nat) : Int) := by rw [wr_small (by omega)]; simp
          obtain ⟨k0, hk0⟩ : ∃ k, N[i]? = some k := ⟨_, List.getElem?_eq_getElem hlt⟩
          obtain ⟨k, l, rfl, hkl, hka⟩ := hNm k0 (List.mem_of_getElem? hk0)
          have hkF : k < p.scen.length := (List.getElem?_eq_some_iff.1 hkl).1
          obtain ⟨k33, T', u', e', k35, hle⟩ := hone k l hkl hka
          have hoc : (oneP p l).cells = [.sl [[.sl (hourRows l)]], .sl (sightRows p.seen), .sl (intRows p.sun), .i p.gain, .i p.start, .i p.stop, .i p.charge, .i p.capacity, .i p.reserve, .i p.gas, .i p.rate, .i p.units, .sl (intRows p.needs)] := rfl
          rw [hoc] at k33 k35
          have g1 := intRows_at hk0
          have hni : ¬ ((i : Int) < 0) := by omega
          have hnk : ¬ ((k : Int) < 0) := by omega
          have d1 : decide ((k : Int) < 0) = false := decide_eq_false hnk
          have d2 : decide ((k : Int) ≥ (p.scen.length : Int)) = false := decide_eq_false (by omega)
          have w1 : IntKind.i64.wrap ((k : Int) + 1) = (k : Int) + 1 := wr_small (by omega)
          have hn : minN p b (N.take (i + 1)) = min (minN p b (N.take i)) (lastN p b l : Int) := by
            rw [minN, List.take_add_one, hk0, Option.toList_some, List.foldl_append]
            have : scenAt p.scen (k : Int) = l := by rw [scenAt, Int.toNat_natCast, List.getD, hkl]; rfl
            rw [List.foldl_cons, List.foldl_nil, this]
            rfl
          have gsl : ((scenRows p.scen).drop k).take 1 = [[.sl (hourRows l)]] := by
            rw [scenRows, ← List.map_drop, ← List.map_take, drop_get hkl]
            rfl
          repeat (first | refine walkL_seq ?_ | refine walkL_skip ?_ | refine walkL_block ?_ | (refine walkL_region fun K hK => ?_; simp (maxSteps := 4000000) only [go_sem]; refine hK _ ?_; clear hK K) | refine walkL_nil ?_ | refine walkL_ret ?_ | refine walkL_exit ?_ | refine blockA_here ?_ | refine blockA_other rfl ?_ | refine blockA_ret ?_ | refine blockA_normal ?_ | refine thenA_ret ?_ | refine thenA_exit ?_ | refine thenA_normal ?_)
          refine walkL_drawn (by kernel_rfl) (by kernel_rfl) fun K hK => ?_
          simp (maxSteps := 4000000) only [go_sem, g1, hni, d1, d2, scenRows_len]
          refine ⟨by kernel_rfl, hK _ ?_⟩
          clear hK K
          repeat (first | refine walkL_true rfl ?_ | refine walkL_false rfl ?_ | refine walkL_seq ?_ | refine walkL_skip ?_ | refine walkL_block ?_ | (refine walkL_region fun K hK => ?_; simp (maxSteps := 4000000) only [go_sem]; (repeat (first | (refine ⟨_, .lent (hf := h36) (hd := rfl) (hr := rfl), ?_⟩; simp (maxSteps := 4000000) only [go_sem]) | (refine ⟨_, .given (hf := h36) (hd := rfl) (ha := rfl), ?_⟩; simp (maxSteps := 4000000) only [go_sem]))); refine hK _ ?_; clear hK K) | refine walkL_nil ?_ | refine walkL_ret ?_ | refine walkL_exit ?_ | refine blockA_here ?_ | refine blockA_other rfl ?_ | refine blockA_ret ?_ | refine blockA_normal ?_ | refine thenA_ret ?_ | refine thenA_exit ?_ | refine thenA_normal ?_)
          have c1 : (0 ≤ (k : Int) + 1) := by omega
          have c2 : (k : Int) + 1 ≤ (p.scen.length : Int) := by omega
          have c3 : ((k : Int) + 1).toNat = k + 1 := by omega
          have c4 : (k : Int) ≤ ((k + 1 : Nat) : Int) := by omega
          have c5 : k + 1 - k = 1 := by omega
          refine walkL_drawn (by kernel_rfl) (by kernel_rfl) fun K hK => ?_
          simp (maxSteps := 4000000) only [go_sem, g1, hni, hnk, w1, scenRows_len, c1, c2, c3, c4, c5, gsl]
          refine ⟨by kernel_rfl, hK _ ?_⟩
          clear hK K
          obtain ⟨rfl, hle2⟩ := hle rfl
          have d3 : decide (u' > u) = false := decide_eq_false (by omega)
          repeat (first | refine walkL_true rfl ?_ | refine walkL_false rfl ?_ | refine walkL_seq ?_ | refine walkL_skip ?_ | refine walkL_block ?_ | (refine walkL_region fun K hK => ?_; simp (maxSteps := 4000000) only [go_sem, d3, hw]; (repeat (first | (refine ⟨_, .lent (hf := k33) (hd := rfl) (hr := rfl), ?_⟩; simp (maxSteps := 4000000) only [go_sem, d3, hw]) | (refine ⟨_, .lent (hf := k35) (hd := rfl) (hr := rfl), ?_⟩; simp (maxSteps := 4000000) only [go_sem, d3, hw]) | (refine ⟨_, .given (hf := k33) (hd := rfl) (ha := rfl), ?_⟩; simp (maxSteps := 4000000) only [go_sem, d3, hw]) | (refine ⟨_, .given (hf := k35) (hd := rfl) (ha := rfl), ?_⟩; simp (maxSteps := 4000000) only [go_sem, d3, hw]))); refine hK _ ?_; clear hK K) | refine walkL_nil ?_ | refine walkL_ret ?_ | refine walkL_exit ?_ | refine blockA_here ?_ | refine blockA_other rfl ?_ | refine blockA_ret ?_ | refine blockA_normal ?_ | refine thenA_ret ?_ | refine thenA_exit ?_ | refine thenA_normal ?_)
          refine ⟨rfl, i + 1, ?_, hlt, by omega⟩
          refine weak_of [] ?_ ?_ rfl rfl <;> simp [lessT, lessM, lessB, AV.less]
          all_goals first | done | exact hn.symm | exact hn
        · have he : i = N.length := by (have : ¬ i < N.length := by simpa using hb); omega
          subst he
          rw [List.take_length]
          repeat (first | refine walkL_true rfl ?_ | refine walkL_false rfl ?_ | refine walkL_seq ?_ | refine walkL_skip ?_ | refine walkL_block ?_ | (refine walkL_region fun K hK => ?_; simp (maxSteps := 4000000) only [go_sem, beq_self_eq_true]; (repeat (first | (refine ⟨_, .lent (hf := h32) (hd := rfl) (hr := rfl), ?_⟩; simp (maxSteps := 4000000) only [go_sem, beq_self_eq_true]) | (refine ⟨_, .given (hf := h32) (hd := rfl) (ha := rfl), ?_⟩; simp (maxSteps := 4000000) only [go_sem, beq_self_eq_true]))); refine hK _ ?_; clear hK K) | refine walkL_nil ?_ | refine walkL_ret ?_ | refine walkL_exit ?_ | refine blockA_here ?_ | refine blockA_other rfl ?_ | refine blockA_ret ?_ | refine blockA_normal ?_ | refine thenA_ret ?_ | refine thenA_exit ?_ | refine thenA_normal ?_)
          simp (maxSteps := 4000000) only [go_sem]
    · repeat (first | refine walkL_true rfl ?_ | refine walkL_false rfl ?_ | refine walkL_seq ?_ | refine walkL_skip ?_ | refine walkL_block ?_ | (refine walkL_region fun K hK => ?_; simp (maxSteps := 4000000) only [go_sem, intRows_len, q1]; (repeat (first | (refine ⟨_, .lent (hf := h33) (hd := rfl) (hr := rfl), ?_⟩; simp (maxSteps := 4000000) only [go_sem, intRows_len, q1]) | (refine ⟨_, .lent (hf := h34) (hd := rfl) (hr := rfl), ?_⟩; simp (maxSteps := 4000000) only [go_sem, intRows_len, q1]) | (refine ⟨_, .lent (hf := h35) (hd := rfl) (hr := rfl), ?_⟩; simp (maxSteps := 4000000) only [go_sem, intRows_len, q1]) | (refine ⟨_, .given (hf := h33) (hd := rfl) (ha := rfl), ?_⟩; simp (maxSteps := 4000000) only [go_sem, intRows_len, q1]) | (refine ⟨_, .given (hf := h34) (hd := rfl) (ha := rfl), ?_⟩; simp (maxSteps := 4000000) only [go_sem, intRows_len, q1]) | (refine ⟨_, .given (hf := h35) (hd := rfl) (ha := rfl), ?_⟩; simp (maxSteps := 4000000) only [go_sem, intRows_len, q1]))); refine hK _ ?_; clear hK K) | refine walkL_nil ?_ | refine walkL_ret ?_ | refine walkL_exit ?_ | refine blockA_here ?_ | refine blockA_other rfl ?_ | refine blockA_ret ?_ | refine blockA_normal ?_ | refine thenA_ret ?_ | refine thenA_exit ?_ | refine thenA_normal ?_)
      refine walkL_loopS (fun (i : Nat) => [(13, .d (.i (i : Int))), (12, .d (.i (minN p b (N.take i))))]) (fun _ => []) (fun i => i ≤ N.length) (fun i => N.length - i) 0 ?_ (Nat.zero_le _) ?_
      · rw [← M0]
        simp (maxSteps := 4000000) only [go_sem]
        refine weak_of [] ?_ ?_ rfl rfl <;> simp [lessT, lessM, lessB, AV.less]
      · intro i hi
        simp (maxSteps := 4000000) only [go_sem]
        repeat (first | refine walkL_seq ?_ | refine walkL_skip ?_ | refine walkL_block ?_ | (refine walkL_region fun K hK => ?_; simp (maxSteps := 4000000) only [go_sem, intRows_len]; refine hK _ ?_; clear hK K) | refine walkL_nil ?_ | refine walkL_ret ?_ | refine walkL_exit ?_ | refine blockA_here ?_ | refine blockA_other rfl ?_ | refine blockA_ret ?_ | refine blockA_normal ?_ | refine thenA_ret ?_ | refine thenA_exit ?_ | refine thenA_normal ?_)
        refine walkL_cond rfl (fun hb => ?_) (fun hb => ?_)
        · have hlt : i < N.length := by simpa using hb
          have hw : IntKind.i64.wrap ((i : Int) + 1) = ((i + 1 : Nat) : Int) := by rw [wr_small (by omega)]; simp
          obtain ⟨k0, hk0⟩ : ∃ k, N[i]? = some k := ⟨_, List.getElem?_eq_getElem hlt⟩
          obtain ⟨k, l, rfl, hkl, hka⟩ := hNm k0 (List.mem_of_getElem? hk0)
          have hkF : k < p.scen.length := (List.getElem?_eq_some_iff.1 hkl).1
          obtain ⟨k33, T', u', e', k35, hle⟩ := hone k l hkl hka
          have hoc : (oneP p l).cells = [.sl [[.sl (hourRows l)]], .sl (sightRows p.seen), .sl (intRows p.sun), .i p.gain, .i p.start, .i p.stop, .i p.charge, .i p.capacity, .i p.reserve, .i p.gas, .i p.rate, .i p.units, .sl (intRows p.needs)] := rfl
          rw [hoc] at k33 k35
          have g1 := intRows_at hk0
          have hni : ¬ ((i : Int) < 0) := by omega
          have hnk : ¬ ((k : Int) < 0) := by omega
          have d1 : decide ((k : Int) < 0) = false := decide_eq_false hnk
          have d2 : decide ((k : Int) ≥ (p.scen.length : Int)) = false := decide_eq_false (by omega)
          have w1 : IntKind.i64.wrap ((k : Int) + 1) = (k : Int) + 1 := wr_small (by omega)
          have hn : minN p b (N.take (i + 1)) = min (minN p b (N.take i)) (lastN p b l : Int) := by
            rw [minN, List.take_add_one, hk0, Option.toList_some, List.foldl_append]
            have : scenAt p.scen (k : Int) = l := by rw [scenAt, Int.toNat_natCast, List.getD, hkl]; rfl
            rw [List.foldl_cons, List.foldl_nil, this]
            rfl
          have gsl : ((scenRows p.scen).drop k).take 1 = [[.sl (hourRows l)]] := by
            rw [scenRows, ← List.map_drop, ← List.map_take, drop_get hkl]
            rfl
          repeat (first | refine walkL_seq ?_ | refine walkL_skip ?_ | refine walkL_block ?_ | (refine walkL_region fun K hK => ?_; simp (maxSteps := 4000000) only [go_sem]; refine hK _ ?_; clear hK K) | refine walkL_nil ?_ | refine walkL_ret ?_ | refine walkL_exit ?_ | refine blockA_here ?_ | refine blockA_other rfl ?_ | refine blockA_ret ?_ | refine blockA_normal ?_ | refine thenA_ret ?_ | refine thenA_exit ?_ | refine thenA_normal ?_)
          refine walkL_drawn (by kernel_rfl) (by kernel_rfl) fun K hK => ?_
          simp (maxSteps := 4000000) only [go_sem, g1, hni, d1, d2, scenRows_len]
          refine ⟨by kernel_rfl, hK _ ?_⟩
          clear hK K
          repeat (first | refine walkL_true rfl ?_ | refine walkL_false rfl ?_ | refine walkL_seq ?_ | refine walkL_skip ?_ | refine walkL_block ?_ | (refine walkL_region fun K hK => ?_; simp (maxSteps := 4000000) only [go_sem]; (repeat (first | (refine ⟨_, .lent (hf := h36) (hd := rfl) (hr := rfl), ?_⟩; simp (maxSteps := 4000000) only [go_sem]) | (refine ⟨_, .given (hf := h36) (hd := rfl) (ha := rfl), ?_⟩; simp (maxSteps := 4000000) only [go_sem]))); refine hK _ ?_; clear hK K) | refine walkL_nil ?_ | refine walkL_ret ?_ | refine walkL_exit ?_ | refine blockA_here ?_ | refine blockA_other rfl ?_ | refine blockA_ret ?_ | refine blockA_normal ?_ | refine thenA_ret ?_ | refine thenA_exit ?_ | refine thenA_normal ?_)
          have c1 : (0 ≤ (k : Int) + 1) := by omega
          have c2 : (k : Int) + 1 ≤ (p.scen.length : Int) := by omega
          have c3 : ((k : Int) + 1).toNat = k + 1 := by omega
          have c4 : (k : Int) ≤ ((k + 1 : Nat) : Int) := by omega
          have c5 : k + 1 - k = 1 := by omega
          refine walkL_drawn (by kernel_rfl) (by kernel_rfl) fun K hK => ?_
          simp (maxSteps := 4000000) only [go_sem, g1, hni, hnk, w1, scenRows_len, c1, c2, c3, c4, c5, gsl]
          refine ⟨by kernel_rfl, hK _ ?_⟩
          clear hK K
          repeat (first | refine walkL_true rfl ?_ | refine walkL_false rfl ?_ | refine walkL_seq ?_ | refine walkL_skip ?_ | refine walkL_block ?_ | (refine walkL_region fun K hK => ?_; simp (maxSteps := 4000000) only [go_sem, hw]; (repeat (first | (refine ⟨_, .lent (hf := k33) (hd := rfl) (hr := rfl), ?_⟩; simp (maxSteps := 4000000) only [go_sem, hw]) | (refine ⟨_, .lent (hf := k35) (hd := rfl) (hr := rfl), ?_⟩; simp (maxSteps := 4000000) only [go_sem, hw]) | (refine ⟨_, .given (hf := k33) (hd := rfl) (ha := rfl), ?_⟩; simp (maxSteps := 4000000) only [go_sem, hw]) | (refine ⟨_, .given (hf := k35) (hd := rfl) (ha := rfl), ?_⟩; simp (maxSteps := 4000000) only [go_sem, hw]))); refine hK _ ?_; clear hK K) | refine walkL_nil ?_ | refine walkL_ret ?_ | refine walkL_exit ?_ | refine blockA_here ?_ | refine blockA_other rfl ?_ | refine blockA_ret ?_ | refine blockA_normal ?_ | refine thenA_ret ?_ | refine thenA_exit ?_ | refine thenA_normal ?_)
          refine ⟨rfl, i + 1, ?_, hlt, by omega⟩
          refine weak_of [] ?_ ?_ rfl rfl <;> simp [lessT, lessM, lessB, AV.less]
          all_goals first | done | exact hn.symm | exact hn
        · have he : i = N.length := by (have : ¬ i < N.length := by simpa using hb); omega
          subst he
          rw [List.take_length]
          repeat (first | refine walkL_true rfl ?_ | refine walkL_false rfl ?_ | refine walkL_seq ?_ | refine walkL_skip ?_ | refine walkL_block ?_ | (refine walkL_region fun K hK => ?_; simp (maxSteps := 4000000) only [go_sem, beq_self_eq_true]; (repeat (first | (refine ⟨_, .lent (hf := h32) (hd := rfl) (hr := rfl), ?_⟩; simp (maxSteps := 4000000) only [go_sem, beq_self_eq_true]) | (refine ⟨_, .given (hf := h32) (hd := rfl) (ha := rfl), ?_⟩; simp (maxSteps := 4000000) only [go_sem, beq_self_eq_true]))); refine hK _ ?_; clear hK K) | refine walkL_nil ?_ | refine walkL_ret ?_ | refine walkL_exit ?_ | refine blockA_here ?_ | refine blockA_other rfl ?_ | refine blockA_ret ?_ | refine blockA_normal ?_ | refine thenA_ret ?_ | refine thenA_exit ?_ | refine thenA_normal ?_)
          simp (maxSteps := 4000000) only [go_sem]
end Go.Ab
