/- A walk engine over abstract states, and the contracts of the functions that the statement reaches: part 6. -/
import Derived.Test.YtlcbalngfpgjdaaGreatDoorWe
set_option linter.unusedVariables false
set_option linter.unusedSimpArgs false
set_option linter.unnecessarySimpa false
namespace Go.Ab
open Go.RowKit Go.Proofs
set_option maxHeartbeats 16000000
set_option maxRecDepth 20000
attribute [local irreducible] WalkL Walk
theorem closed_min {F : List (List Hour)} {seen : List Sight} (hg : ForeGood F) (hsi : sightsB (hd0 F).length seen = true) {m : List Sky} (hwe : weB F seen m = true) (rules : List Rule) (i : Nat) (x : Path) {h t : Nat} (hh : h < m.length) (ht : t / 60 = h)
    (hin : inSpans (safeP rules (scensOf (possL F seen)) (hd0 F).length i x).opens (t : Int) = true) : isOpenF rules m i h = true ∧ inSpans x.opens (t : Int) = true := by
  unfold safeP at hin
  cases q : (((ofPath rules i).length : Int) == 0)
  · rw [q] at hin
    simp only [Bool.false_eq_true, if_false] at hin
    obtain ⟨h1, h2⟩ := safe_in hin
    rw [ht] at h2
    exact ⟨(closed_hour hg hsi hwe rules i hh).1 h2, h1⟩
  · rw [q] at hin
    simp only [if_true] at hin
    refine ⟨isOpen_iff.2 fun r hr => ?_, hin⟩
    have h0 : ((ofPath rules i).length : Int) = 0 := by simpa using q
    have : ofPath rules i = [] := List.length_eq_zero_iff.1 (by omega)
    rw [this] at hr
    cases hr
theorem safe_len {n : Net} (hn : n.Good) (rules : List Rule) (S : List (List Hour)) (H i : Nat) {x : Path} (hx : x ∈ n.paths) : (safeP rules S H i x).opens.length ≤ 6 := by
  unfold safeP
  split
  · exact (hn.path x hx).len
  · show (safeOpens _ _).length ≤ 6
    unfold safeOpens
    rw [List.length_take]
    omega
def badClosed (F : List (List Hour)) (u : RuledX) (x : RealX) : Bool :=
  farRules u || (decide ((x.skies.length : Int) > 60) || (!weathersB F x.seen x.skies || (crE u.net u.rules F x.seen true != 0)))
theorem f4 (F : List (List Hour)) (u : RuledX) (x : RealX) (hs : ForeSmall F) (hu : u.net.Small) (hr : u.rules.length < 2 ^ 30) (hsl : x.seen.length < 2 ^ 30) (hkl : x.skies.length < 2 ^ 30) :
    Fn Tryz.prog 4 [.agg [.sl (scenRows F)], .agg u.cells, .agg x.cells] (.bool true) := by
  obtain ⟨seen, m, lim, len⟩ := x
  dsimp only at hsl hkl
  obtain ⟨n, rules, pth⟩ := u
  dsimp only at hu hr
  have h9 := f9
  have h8 := f8 ⟨n, rules, pth⟩ hu
  have h18 := f18 F seen m hs hsl
  have h19 := f19 n rules F seen true hu hr hs hsl
  rw [Net.cells_eq] at h19
  rw [RuledX.cells] at h8
  dsimp only at h8
  refine fn_walk 164 Tryz.call4 Tryz.func4 rfl (by decide) fun J => ?_
  simp (maxSteps := 4000000) only [go_sem, St.start, Tryz.ntmps4, Tryz.results4, RealX.cells, RuledX.cells]
  repeat (first | refine walkL_seq ?_ | refine walkL_skip ?_ | refine walkL_block ?_ | (refine walkL_region fun K hK => ?_; simp (maxSteps := 4000000) only [go_sem]; refine hK _ ?_; clear hK K) | refine walkL_nil ?_ | refine walkL_ret ?_ | refine walkL_exit ?_ | refine blockA_here ?_ | refine blockA_other rfl ?_ | refine blockA_ret ?_ | refine blockA_normal ?_ | refine thenA_ret ?_ | refine thenA_exit ?_ | refine thenA_normal ?_)
  refine walkL_meetS [(43, .d (.bool (badClosed F ⟨n, rules, pth⟩ ⟨seen, m, lim, len⟩)))] [] ?_ ?_
  · refine walkL_region fun K hK => ?_
    simp (maxSteps := 4000000) only [go_sem, skyRows_len]
    refine ⟨_, .lent (hf := h8) (hd := rfl) (hr := rfl), ?_⟩
    simp (maxSteps := 4000000) only [go_sem, skyRows_len]
    by_cases ho0 : (farRules ⟨n, rules, pth⟩) = true
    · simp (maxSteps := 4000000) only [go_sem, skyRows_len, ho0]
      refine hK _ ?_
      clear hK K
      refine walkL_nil ?_
      refine thenA_normal ?_
      refine ⟨rfl, ?_⟩
      rw [show (badClosed F ⟨n, rules, pth⟩ ⟨seen, m, lim, len⟩) = (true) from by simp [badClosed, ho0]]
      simp (maxSteps := 4000000) only [go_sem]
      refine weak_of [] ?_ ?_ rfl rfl <;> simp [lessT, lessM, lessB, AV.less]
    · simp (maxSteps := 4000000) only [go_sem, skyRows_len, ho0]
      by_cases ho1 : (decide ((m.length : Int) > 60)) = true
      · simp (maxSteps := 4000000) only [go_sem, skyRows_len, ho0, ho1]
        refine hK _ ?_
        clear hK K
        refine walkL_nil ?_
        refine thenA_normal ?_
        refine ⟨rfl, ?_⟩
        rw [show (badClosed F ⟨n, rules, pth⟩ ⟨seen, m, lim, len⟩) = (true) from by simp [badClosed, ho0, ho1]]
        simp (maxSteps := 4000000) only [go_sem]
        refine weak_of [] ?_ ?_ rfl rfl <;> simp [lessT, lessM, lessB, AV.less]
      · simp (maxSteps := 4000000) only [go_sem, skyRows_len, ho0, ho1]
        refine ⟨_, .lent (hf := h18) (hd := rfl) (hr := rfl), ?_⟩
        simp (maxSteps := 4000000) only [go_sem, skyRows_len, ho0, ho1]
        by_cases ho2 : (!weathersB F seen m) = true
        · simp (maxSteps := 4000000) only [go_sem, skyRows_len, ho0, ho1, ho2]
          refine hK _ ?_
          clear hK K
          refine walkL_nil ?_
          refine thenA_normal ?_
          refine ⟨rfl, ?_⟩
          rw [show (badClosed F ⟨n, rules, pth⟩ ⟨seen, m, lim, len⟩) = (true) from by simp [badClosed, ho0, ho1, ho2]]
          simp (maxSteps := 4000000) only [go_sem]
          refine weak_of [] ?_ ?_ rfl rfl <;> simp [lessT, lessM, lessB, AV.less]
        · simp (maxSteps := 4000000) only [go_sem, skyRows_len, ho0, ho1, ho2]
          refine ⟨_, .lent (hf := h19) (hd := rfl) (hr := rfl), ?_⟩
          simp (maxSteps := 4000000) only [go_sem, skyRows_len, ho0, ho1, ho2]
          refine hK _ ?_
          clear hK K
          refine walkL_nil ?_
          refine thenA_normal ?_
          refine ⟨rfl, ?_⟩
          rw [show (badClosed F ⟨n, rules, pth⟩ ⟨seen, m, lim, len⟩) = (crE n rules F seen true != 0) from by simp [badClosed, ho0, ho1, ho2]]
          simp (maxSteps := 4000000) only [go_sem]
          refine weak_of [] ?_ ?_ rfl rfl <;> simp [lessT, lessM, lessB, AV.less]
  cases hbad : badClosed F ⟨n, rules, pth⟩ ⟨seen, m, lim, len⟩
  · simp (maxSteps := 4000000) only [go_sem]
    obtain ⟨b1, b2, b3⟩ : decide ((m.length : Int) > 60) = false ∧ weathersB F seen m = true ∧ crE n rules F seen true = 0 := by
      unfold badClosed at hbad
      simp only [Bool.or_eq_false_iff, Bool.not_eq_false', bne_eq_false_iff_eq] at hbad
      exact hbad.2
    obtain ⟨_, hg, hsi, hwe⟩ := weathers_iff b2
    have hml : m.length ≤ 60 := by have := of_decide_eq_false b1; omega
    have hHm := (we_in hg hsi hwe).1
    have hru : ∀ p : Int, -1 ≤ p → p ≤ (n.paths.length : Int) - 1 → ruledE n rules F seen p = 0 := fun p h1 h2 => by
      rw [ruledE_cr, within_iff.2 ⟨h1, h2⟩]
      exact b3
    obtain ⟨_, _, _, hbn, hbr, _⟩ := ruled_all (hru (-1) (by omega) (by omega))
    have hnG : n.Good := good_iff.1 (by rw [hbn]; decide)
    have hro := (rules_ok hbr).2
    have h15 := f15 n rules F seen hu hr hs hsl
    have k15 : safeF n rules F seen = (⟨n.places, n.paths.mapIdx (safeP rules (scensOf (possL F seen)) (hd0 F).length)⟩, 0) := by
      unfold safeF
      rw [if_pos (hru (-1) (by omega) (by omega))]
    rw [k15] at h15
    obtain ⟨f, hf⟩ : ∃ f, f = safeP rules (scensOf (possL F seen)) (hd0 F).length := ⟨_, rfl⟩
    rw [← hf, Net.cells_eq, Net.cells_eq] at h15
    dsimp only at h15
    obtain ⟨P, hP⟩ : ∃ P, P = n.paths.mapIdx f := ⟨_, rfl⟩
    have hPl : P.length = n.paths.length := by rw [hP, List.length_mapIdx]
    have hPg : ∀ i x, n.paths[i]? = some x → P[i]? = some (f i x) := fun i x hx => by rw [hP, List.getElem?_mapIdx, hx]; rfl
    rw [← hP] at h15
    have hup := hu.paths
    have n1 : ((P.length : Int) != (n.paths.length : Int)) = false := by rw [hPl]; simp
    repeat (first | refine walkL_true rfl ?_ | refine walkL_false rfl ?_ | refine walkL_seq ?_ | refine walkL_skip ?_ | refine walkL_block ?_ | (refine walkL_region fun K hK => ?_; simp (maxSteps := 4000000) only [go_sem, n1, pathRows_len]; (repeat (first | (refine ⟨_, .lent (hf := h15) (hd := rfl) (hr := rfl), ?_⟩; simp (maxSteps := 4000000) only [go_sem, n1, pathRows_len]) | (refine ⟨_, .given (hf := h15) (hd := rfl) (ha := rfl), ?_⟩; simp (maxSteps := 4000000) only [go_sem, n1, pathRows_len]))); refine hK _ ?_; clear hK K) | refine walkL_nil ?_ | refine walkL_ret ?_ | refine walkL_exit ?_ | refine blockA_here ?_ | refine blockA_other rfl ?_ | refine blockA_ret ?_ | refine blockA_normal ?_ | refine thenA_ret ?_ | refine thenA_exit ?_ | refine thenA_normal ?_)
    clear hP h8 h18 h19
    refine walkL_loopS (fun (i : Nat) => [(9, .d (.i i)), (10, .undef), (11, .undef), (12, .undef), (13, .undef), (14, .undef), (15, .undef)]) (fun _ => []) (fun i => i ≤ P.length) (fun i => P.length - i) 0 ?_ (Nat.zero_le _) ?_
    · simp (maxSteps := 4000000) only [go_sem]
      refine weak_of [] ?_ ?_ rfl rfl <;> simp [lessT, lessM, lessB, AV.less]
      all_goals first | done | rfl
    · intro i hi
      simp (maxSteps := 4000000) only [go_sem]
      repeat (first | refine walkL_seq ?_ | refine walkL_skip ?_ | refine walkL_block ?_ | (refine walkL_region fun K hK => ?_; simp (maxSteps := 4000000) only [go_sem, pathRows_len]; refine hK _ ?_; clear hK K) | refine walkL_nil ?_ | refine walkL_ret ?_ | refine walkL_exit ?_ | refine blockA_here ?_ | refine blockA_other rfl ?_ | refine blockA_ret ?_ | refine blockA_normal ?_ | refine thenA_ret ?_ | refine thenA_exit ?_ | refine thenA_normal ?_)
      refine walkL_cond rfl (fun hb => ?_) (fun hb => ?_)
      · have hlt : i < P.length := by simpa using hb
        have hw : IntKind.i64.wrap ((i : Int) + 1) = ((i + 1 : Nat) : Int) := by rw [wr_small (by omega)]; simp
        obtain ⟨x, hx⟩ : ∃ x, n.paths[i]? = some x := ⟨_, List.getElem?_eq_getElem (by omega)⟩
        have g1 := pathRows_at hx
        have g2 := pathRows_at (hPg i x hx)
        rw [Path.row_eq] at g1 g2
        have hxm := List.mem_of_getElem? hx
        have hol := safe_len hnG rules (scensOf (possL F seen)) (hd0 F).length i hxm
        rw [← hf] at hol
        have h12 := f12o n rules F seen (i : Int) hu hr hs hsl
        have k12 : opnF n rules F seen (i : Int) = (openS (ofPath rules i) (scensOf (possL F seen)) (hd0 F).length, openM (ofPath rules i) (scensOf (possL F seen)) (hd0 F).length, 0) := by
          unfold opnF
          have hi0 : ¬ ((i : Int) < 0) := by omega
          rw [if_neg hi0, if_pos (hru i (by omega) (by omega))]
        rw [k12, Net.cells_eq] at h12
        dsimp only at h12
        have hch := fun h (hh : h < m.length) => closed_hour hg hsi hwe rules (i : Int) hh
        have hcm := fun h t (hh : h < m.length) (ht : t / 60 = h) => closed_min hg hsi hwe rules i x hh ht
        rw [← hf] at hcm
        obtain ⟨A, hA⟩ : ∃ A, A = openS (ofPath rules i) (scensOf (possL F seen)) (hd0 F).length := ⟨_, rfl⟩
        obtain ⟨B, hB⟩ : ∃ B, B = openM (ofPath rules i) (scensOf (possL F seen)) (hd0 F).length := ⟨_, rfl⟩
        have lA : A.length < 2 ^ 30 := by
          have := spansQ_len (fun j => (scensOf (possL F seen)).all fun s => keepsB alwaysB (ofPath rules i) s j) (hd0 F).length
          rw [hA]; unfold openS; omega
        have lB : B.length < 2 ^ 30 := by
          have := spansQ_len (fun j => (scensOf (possL F seen)).any fun s => keepsB everB (ofPath rules i) s j) (hd0 F).length
          rw [hB]; unfold openM; omega
        rw [← hA, ← hB] at h12
        rw [← hA, ← hB] at hch
        obtain ⟨y, hy⟩ : ∃ y, y = f i x := ⟨_, rfl⟩
        rw [← hy] at g2 hol hcm
        have hd : decide ((y.opens.length : Int) > 6) = false := decide_eq_false (by omega)
        have lY : y.opens.length < 2 ^ 30 := by omega
        have lX := hu.opens x hxm
        repeat (first | refine walkL_true rfl ?_ | refine walkL_false rfl ?_ | refine walkL_seq ?_ | refine walkL_skip ?_ | refine walkL_block ?_ | (refine walkL_region fun K hK => ?_; simp (maxSteps := 4000000) only [go_sem, g1, g2, hd, pathRows_len, spanRows_len]; (repeat (first | (refine ⟨_, .lent (hf := h12) (hd := rfl) (hr := rfl), ?_⟩; simp (maxSteps := 4000000) only [go_sem, g1, g2, hd, pathRows_len, spanRows_len]) | (refine ⟨_, .given (hf := h12) (hd := rfl) (ha := rfl), ?_⟩; simp (maxSteps := 4000000) only [go_sem, g1, g2, hd, pathRows_len, spanRows_len]))); refine hK _ ?_; clear hK K) | refine walkL_nil ?_ | refine walkL_ret ?_ | refine walkL_exit ?_ | refine blockA_here ?_ | refine blockA_other rfl ?_ | refine blockA_ret ?_ | refine blockA_normal ?_ | refine thenA_ret ?_ | refine thenA_exit ?_ | refine thenA_normal ?_)
        refine walkL_loopS (fun (h : Nat) => [(13, .d (.i h)), (14, .undef), (15, .undef)]) (fun _ => []) (fun h => h ≤ m.length) (fun h => m.length - h) 0 ?_ (Nat.zero_le _) ?_
        · simp (maxSteps := 4000000) only [go_sem]
          refine weak_of [] ?_ ?_ rfl rfl <;> simp [lessT, lessM, lessB, AV.less]
          all_goals first | done | rfl
        · intro h hhm
          simp (maxSteps := 4000000) only [go_sem]
          repeat (first | refine walkL_seq ?_ | refine walkL_skip ?_ | refine walkL_block ?_ | (refine walkL_region fun K hK => ?_; simp (maxSteps := 4000000) only [go_sem, skyRows_len]; refine hK _ ?_; clear hK K) | refine walkL_nil ?_ | refine walkL_ret ?_ | refine walkL_exit ?_ | refine blockA_here ?_ | refine blockA_other rfl ?_ | refine blockA_ret ?_ | refine blockA_normal ?_ | refine thenA_ret ?_ | refine thenA_exit ?_ | refine thenA_normal ?_)
          refine walkL_cond rfl (fun hb => ?_) (fun hb => ?_)
          · have hlth : h < m.length := by simpa using hb
            have hwh : IntKind.i64.wrap ((h : Int) + 1) = ((h + 1 : Nat) : Int) := by rw [wr_small (by omega)]; simp
            have h20 := f20 rules m (i : Int) h hlth hkl hr (fun r hr' => (hro r hr').2.1)
            have hsA := f21 A (h : Int) lA
            have hsB := f21 B (h : Int) lB
            obtain ⟨c1, c2⟩ := hch h hlth
            have c3 := fun t ht => hcm h t hlth ht
            obtain ⟨o, ho⟩ : ∃ o, o = isOpenF rules m (i : Int) h := ⟨_, rfl⟩
            obtain ⟨a, ha⟩ : ∃ a, a = inSpans A (h : Int) := ⟨_, rfl⟩
            obtain ⟨b, hb'⟩ : ∃ b, b = inSpans B (h : Int) := ⟨_, rfl⟩
            rw [← ha] at hsA c1
            rw [← hb'] at hsB c2
            rw [← ho] at h20 c1 c2 c3
            have w60 : IntKind.i64.wrap (60 * (h : Int)) = ((60 * h : Nat) : Int) := by rw [wr_small (by omega)]; omega
            have w61 : IntKind.i64.wrap (((60 * h : Nat) : Int) + 60) = ((60 * h + 60 : Nat) : Int) := by rw [wr_small (by omega)]; omega
            have hc : (o = false ∧ a = false) ∨ (o = true ∧ b = true) := by
              cases o
              · left
                cases a
                · exact ⟨rfl, rfl⟩
                · exact absurd (c1 rfl) (by decide)
              · exact .inr ⟨rfl, c2 rfl⟩
            rcases hc with ⟨rfl, rfl⟩ | ⟨rfl, rfl⟩
            · repeat (first | refine walkL_true rfl ?_ | refine walkL_false rfl ?_ | refine walkL_seq ?_ | refine walkL_skip ?_ | refine walkL_block ?_ | (refine walkL_region fun K hK => ?_; simp (maxSteps := 4000000) only [go_sem, w60]; (repeat (first | (refine ⟨_, .lent (hf := h20) (hd := rfl) (hr := rfl), ?_⟩; simp (maxSteps := 4000000) only [go_sem, w60]) | (refine ⟨_, .lent (hf := hsA) (hd := rfl) (hr := rfl), ?_⟩; simp (maxSteps := 4000000) only [go_sem, w60]) | (refine ⟨_, .given (hf := h20) (hd := rfl) (ha := rfl), ?_⟩; simp (maxSteps := 4000000) only [go_sem, w60]) | (refine ⟨_, .given (hf := hsA) (hd := rfl) (ha := rfl), ?_⟩; simp (maxSteps := 4000000) only [go_sem, w60]))); refine hK _ ?_; clear hK K) | refine walkL_nil ?_ | refine walkL_ret ?_ | refine walkL_exit ?_ | refine blockA_here ?_ | refine blockA_other rfl ?_ | refine blockA_ret ?_ | refine blockA_normal ?_ | refine thenA_ret ?_ | refine thenA_exit ?_ | refine thenA_normal ?_)
              refine walkL_loopS (fun (j : Nat) => [(15, .d (.i ((60 * h + j : Nat) : Int)))]) (fun _ => []) (fun j => j ≤ 60) (fun j => 60 - j) 0 ?_ (Nat.zero_le _) ?_
              · simp (maxSteps := 4000000) only [go_sem]
                refine weak_of [] ?_ ?_ rfl rfl <;> simp [lessT, lessM, lessB, AV.less]
                all_goals first | done | rfl
              · intro j hj
                simp (maxSteps := 4000000) only [go_sem]
                repeat (first | refine walkL_seq ?_ | refine walkL_skip ?_ | refine walkL_block ?_ | (refine walkL_region fun K hK => ?_; simp (maxSteps := 4000000) only [go_sem, w60, w61]; refine hK _ ?_; clear hK K) | refine walkL_nil ?_ | refine walkL_ret ?_ | refine walkL_exit ?_ | refine blockA_here ?_ | refine blockA_other rfl ?_ | refine blockA_ret ?_ | refine blockA_normal ?_ | refine thenA_ret ?_ | refine thenA_exit ?_ | refine thenA_normal ?_)
                refine walkL_cond rfl (fun hb => ?_) (fun hb => ?_)
                · have hltj : j < 60 := by have := of_decide_eq_true hb; omega
                  have hwj : IntKind.i64.wrap (((60 * h + j : Nat) : Int) + 1) = ((60 * h + (j + 1) : Nat) : Int) := by rw [wr_small (by omega)]; omega
                  have hsY := f21 y.opens ((60 * h + j : Nat) : Int) lY
                  have e0 : inSpans y.opens ((60 * h + j : Nat) : Int) = false := by
                    cases q : inSpans y.opens ((60 * h + j : Nat) : Int)
                    · rfl
                    · exact absurd (c3 (60 * h + j) (by omega) q).1 (by decide)
                  rw [e0] at hsY
                  repeat (first | refine walkL_true rfl ?_ | refine walkL_false rfl ?_ | refine walkL_seq ?_ | refine walkL_skip ?_ | refine walkL_block ?_ | (refine walkL_region fun K hK => ?_; simp (maxSteps := 4000000) only [go_sem, g1, g2, hwj, pathRows_len]; (repeat (first | (refine ⟨_, .lent (hf := hsY) (hd := rfl) (hr := rfl), ?_⟩; simp (maxSteps := 4000000) only [go_sem, g1, g2, hwj, pathRows_len]) | (refine ⟨_, .given (hf := hsY) (hd := rfl) (ha := rfl), ?_⟩; simp (maxSteps := 4000000) only [go_sem, g1, g2, hwj, pathRows_len]))); refine hK _ ?_; clear hK K) | refine walkL_nil ?_ | refine walkL_ret ?_ | refine walkL_exit ?_ | refine blockA_here ?_ | refine blockA_other rfl ?_ | refine blockA_ret ?_ | refine blockA_normal ?_ | refine thenA_ret ?_ | refine thenA_exit ?_ | refine thenA_normal ?_)
                  refine ⟨rfl, j + 1, ?_, hltj, by omega⟩
                  refine weak_of [] ?_ ?_ rfl rfl <;> simp [lessT, lessM, lessB, AV.less]
                · repeat (first | refine walkL_true rfl ?_ | refine walkL_false rfl ?_ | refine walkL_seq ?_ | refine walkL_skip ?_ | refine walkL_block ?_ | (refine walkL_region fun K hK => ?_; simp (maxSteps := 4000000) only [go_sem, hwh]; refine hK _ ?_; clear hK K) | refine walkL_nil ?_ | refine walkL_ret ?_ | refine walkL_exit ?_ | refine blockA_here ?_ | refine blockA_other rfl ?_ | refine blockA_ret ?_ | refine blockA_normal ?_ | refine thenA_ret ?_ | refine thenA_exit ?_ | refine thenA_normal ?_)
                  refine ⟨rfl, h + 1, ?_, hlth, by omega⟩
                  refine weak_of [] ?_ ?_ rfl rfl <;> simp [lessT, lessM, lessB, AV.less]
            · cases a
              all_goals
                repeat (first | refine walkL_true rfl ?_ | refine walkL_false rfl ?_ | refine walkL_seq ?_ | refine walkL_skip ?_ | refine walkL_block ?_ | (refine walkL_region fun K hK => ?_; simp (maxSteps := 4000000) only [go_sem, w60]; (repeat (first | (refine ⟨_, .lent (hf := h20) (hd := rfl) (hr := rfl), ?_⟩; simp (maxSteps := 4000000) only [go_sem, w60]) | (refine ⟨_, .lent (hf := hsA) (hd := rfl) (hr := rfl), ?_⟩; simp (maxSteps := 4000000) only [go_sem, w60]) | (refine ⟨_, .lent (hf := hsB) (hd := rfl) (hr := rfl), ?_⟩; simp (maxSteps := 4000000) only [go_sem, w60]) | (refine ⟨_, .given (hf := h20) (hd := rfl) (ha := rfl), ?_⟩; simp (maxSteps := 4000000) only [go_sem, w60]) | (refine ⟨_, .given (hf := hsA) (hd := rfl) (ha := rfl), ?_⟩; simp (maxSteps := 4000000) only [go_sem, w60]) | (refine ⟨_, .given (hf := hsB) (hd := rfl) (ha := rfl), ?_⟩; simp (maxSteps := 4000000) only [go_sem, w60]))); refine hK _ ?_; clear hK K) | refine walkL_nil ?_ | refine walkL_ret ?_ | refine walkL_exit ?_ | refine blockA_here ?_ | refine blockA_other rfl ?_ | refine blockA_ret ?_ | refine blockA_normal ?_ | refine thenA_ret ?_ | refine thenA_exit ?_ | refine thenA_normal ?_)
                refine walkL_loopS (fun (j : Nat) => [(15, .d (.i ((60 * h + j : Nat) : Int)))]) (fun _ => []) (fun j => j ≤ 60) (fun j => 60 - j) 0 ?_ (Nat.zero_le _) ?_
                · simp (maxSteps := 4000000) only [go_sem]
                  refine weak_of [] ?_ ?_ rfl rfl <;> simp [lessT, lessM, lessB, AV.less]
                  all_goals first | done | rfl
                · intro j hj
                  simp (maxSteps := 4000000) only [go_sem]
                  repeat (first | refine walkL_seq ?_ | refine walkL_skip ?_ | refine walkL_block ?_ | (refine walkL_region fun K hK => ?_; simp (maxSteps := 4000000) only [go_sem, w60, w61]; refine hK _ ?_; clear hK K) | refine walkL_nil ?_ | refine walkL_ret ?_ | refine walkL_exit ?_ | refine blockA_here ?_ | refine blockA_other rfl ?_ | refine blockA_ret ?_ | refine blockA_normal ?_ | refine thenA_ret ?_ | refine thenA_exit ?_ | refine thenA_normal ?_)
                  refine walkL_cond rfl (fun hb => ?_) (fun hb => ?_)
                  · have hltj : j < 60 := by have := of_decide_eq_true hb; omega
                    have hwj : IntKind.i64.wrap (((60 * h + j : Nat) : Int) + 1) = ((60 * h + (j + 1) : Nat) : Int) := by rw [wr_small (by omega)]; omega
                    have hsY := f21 y.opens ((60 * h + j : Nat) : Int) lY
                    have hsX := f21 x.opens ((60 * h + j : Nat) : Int) lX
                    cases q : inSpans y.opens ((60 * h + j : Nat) : Int)
                    · rw [q] at hsY
                      repeat (first | refine walkL_true rfl ?_ | refine walkL_false rfl ?_ | refine walkL_seq ?_ | refine walkL_skip ?_ | refine walkL_block ?_ | (refine walkL_region fun K hK => ?_; simp (maxSteps := 4000000) only [go_sem, g1, g2, hwj, pathRows_len]; (repeat (first | (refine ⟨_, .lent (hf := hsY) (hd := rfl) (hr := rfl), ?_⟩; simp (maxSteps := 4000000) only [go_sem, g1, g2, hwj, pathRows_len]) | (refine ⟨_, .given (hf := hsY) (hd := rfl) (ha := rfl), ?_⟩; simp (maxSteps := 4000000) only [go_sem, g1, g2, hwj, pathRows_len]))); refine hK _ ?_; clear hK K) | refine walkL_nil ?_ | refine walkL_ret ?_ | refine walkL_exit ?_ | refine blockA_here ?_ | refine blockA_other rfl ?_ | refine blockA_ret ?_ | refine blockA_normal ?_ | refine thenA_ret ?_ | refine thenA_exit ?_ | refine thenA_normal ?_)
                      refine ⟨rfl, j + 1, ?_, hltj, by omega⟩
                      refine weak_of [] ?_ ?_ rfl rfl <;> simp [lessT, lessM, lessB, AV.less]
                    · have e0 := (c3 (60 * h + j) (by omega) q).2
                      rw [q] at hsY
                      rw [e0] at hsX
                      repeat (first | refine walkL_true rfl ?_ | refine walkL_false rfl ?_ | refine walkL_seq ?_ | refine walkL_skip ?_ | refine walkL_block ?_ | (refine walkL_region fun K hK => ?_; simp (maxSteps := 4000000) only [go_sem, g1, g2, hwj, pathRows_len]; (repeat (first | (refine ⟨_, .lent (hf := hsY) (hd := rfl) (hr := rfl), ?_⟩; simp (maxSteps := 4000000) only [go_sem, g1, g2, hwj, pathRows_len]) | (refine ⟨_, .lent (hf := hsX) (hd := rfl) (hr := rfl), ?_⟩; simp (maxSteps := 4000000) only [go_sem, g1, g2, hwj, pathRows_len]) | (refine ⟨_, .given (hf := hsY) (hd := rfl) (ha := rfl), ?_⟩; simp (maxSteps := 4000000) only [go_sem, g1, g2, hwj, pathRows_len]) | (refine ⟨_, .given (hf := hsX) (hd := rfl) (ha := rfl), ?_⟩; simp (maxSteps := 4000000) only [go_sem, g1, g2, hwj, pathRows_len]))); refine hK _ ?_; clear hK K) | refine walkL_nil ?_ | refine walkL_ret ?_ | refine walkL_exit ?_ | refine blockA_here ?_ | refine blockA_other rfl ?_ | refine blockA_ret ?_ | refine blockA_normal ?_ | refine thenA_ret ?_ | refine thenA_exit ?_ | refine thenA_normal ?_)
                      refine ⟨rfl, j + 1, ?_, hltj, by omega⟩
                      refine weak_of [] ?_ ?_ rfl rfl <;> simp [lessT, lessM, lessB, AV.less]
                  · repeat (first | refine walkL_true rfl ?_ | refine walkL_false rfl ?_ | refine walkL_seq ?_ | refine walkL_skip ?_ | refine walkL_block ?_ | (refine walkL_region fun K hK => ?_; simp (maxSteps := 4000000) only [go_sem, hwh]; refine hK _ ?_; clear hK K) | refine walkL_nil ?_ | refine walkL_ret ?_ | refine walkL_exit ?_ | refine blockA_here ?_ | refine blockA_other rfl ?_ | refine blockA_ret ?_ | refine blockA_normal ?_ | refine thenA_ret ?_ | refine thenA_exit ?_ | refine thenA_normal ?_)
                    refine ⟨rfl, h + 1, ?_, hlth, by omega⟩
                    refine weak_of [] ?_ ?_ rfl rfl <;> simp [lessT, lessM, lessB, AV.less]
          · have he : h = m.length := by (have : ¬ h < m.length := by simpa using hb); omega
            subst he
            repeat (first | refine walkL_true rfl ?_ | refine walkL_false rfl ?_ | refine walkL_seq ?_ | refine walkL_skip ?_ | refine walkL_block ?_ | (refine walkL_region fun K hK => ?_; simp (maxSteps := 4000000) only [go_sem, hw]; refine hK _ ?_; clear hK K) | refine walkL_nil ?_ | refine walkL_ret ?_ | refine walkL_exit ?_ | refine blockA_here ?_ | refine blockA_other rfl ?_ | refine blockA_ret ?_ | refine blockA_normal ?_ | refine thenA_ret ?_ | refine thenA_exit ?_ | refine thenA_normal ?_)
            refine ⟨rfl, i + 1, ?_, hlt, by omega⟩
            refine weak_of [] ?_ ?_ rfl rfl <;> simp [lessT, lessM, lessB, AV.less]
      · have he : i = P.length := by (have : ¬ i < P.length := by simpa using hb); omega
        subst he
        repeat (first | refine walkL_true rfl ?_ | refine walkL_false rfl ?_ | refine walkL_seq ?_ | refine walkL_skip ?_ | refine walkL_block ?_ | (refine walkL_region fun K hK => ?_; simp (maxSteps := 4000000) only [go_sem]; (repeat (first | (refine ⟨_, .lent (hf := h9) (hd := rfl) (hr := rfl), ?_⟩; simp (maxSteps := 4000000) only [go_sem]) | (refine ⟨_, .given (hf := h9) (hd := rfl) (ha := rfl), ?_⟩; simp (maxSteps := 4000000) only [go_sem]))); refine hK _ ?_; clear hK K) | refine walkL_nil ?_ | refine walkL_ret ?_ | refine walkL_exit ?_ | refine blockA_here ?_ | refine blockA_other rfl ?_ | refine blockA_ret ?_ | refine blockA_normal ?_ | refine thenA_ret ?_ | refine thenA_exit ?_ | refine thenA_normal ?_)
        simp (maxSteps := 4000000) only [go_sem]
  · simp (maxSteps := 4000000) only [go_sem]
    repeat (first | refine walkL_true rfl ?_ | refine walkL_false rfl ?_ | refine walkL_seq ?_ | refine walkL_skip ?_ | refine walkL_block ?_ | (refine walkL_region fun K hK => ?_; simp (maxSteps := 4000000) only [go_sem]; (repeat (first | (refine ⟨_, .lent (hf := h9) (hd := rfl) (hr := rfl), ?_⟩; simp (maxSteps := 4000000) only [go_sem]) | (refine ⟨_, .given (hf := h9) (hd := rfl) (ha := rfl), ?_⟩; simp (maxSteps := 4000000) only [go_sem]))); refine hK _ ?_; clear hK K) | refine walkL_nil ?_ | refine walkL_ret ?_ | refine walkL_exit ?_ | refine blockA_here ?_ | refine blockA_other rfl ?_ | refine blockA_ret ?_ | refine blockA_normal ?_ | refine thenA_ret ?_ | refine thenA_exit ?_ | refine thenA_normal ?_)
    simp (maxSteps := 4000000) only [go_sem]
end Go.Ab
namespace Go.Ab
open Go.RowKit Go.Proofs
set_option maxHeartbeats 4000000
set_option maxRecDepth 20000
theorem waysFrom_in (p : Party) (but : Int) : ∀ (l : List Path) (i j : Nat) (x : Path), l[j]? = some x → ((i + j : Nat) : Int) ≠ but → x.grade ≤ p.grade → (i + j, x) ∈ waysFrom p but l i
  | [], _, _, _, h, _, _ => by simp at h
  | y :: l, i, 0, x, h, hb, hg => by
    simp at h
    subst h
    rw [Nat.add_zero] at hb ⊢
    rw [waysFrom, if_pos ⟨hb, hg⟩]
    simp
  | y :: l, i, j + 1, x, h, hb, hg => by
    have ih := waysFrom_in p but l (i + 1) j x (by simpa using h) (by rw [show i + 1 + j = i + (j + 1) by omega]; exact hb) hg
    rw [show i + 1 + j = i + (j + 1) by omega] at ih
    rw [waysFrom]
    split
    · exact List.mem_cons_of_mem _ ih
    · exact ih
theorem ways_iff {n : Net} {p : Party} {but : Int} {w : Nat × Path} : w ∈ waysL n p but ↔ n.paths[w.1]? = some w.2 ∧ w.2.grade ≤ p.grade ∧ (w.1 : Int) ≠ but := by
  constructor
  · intro h
    obtain ⟨_, h2, h3, h4⟩ := waysFrom_mem p but n.paths 0 w h
    exact ⟨by simpa using h2, h3, h4⟩
  · rintro ⟨h1, h2, h3⟩
    have := waysFrom_in p but n.paths 0 w.1 w.2 h1 (by simpa using h3) h2
    simpa [waysL] using this
structure LessNet (M n : Net) : Prop where
  places : M.places = n.places
  path : ∀ (i : Nat) (x' : Path), M.paths[i]? = some x' → ∃ x, n.paths[i]? = some x ∧ x' = { x with opens := x'.opens } ∧ ∀ u : Nat, inSpans x'.opens (u : Int) = true → inSpans x.opens (u : Int) = true
theorem inSpans_iff {l : List Span} {t : Int} : inSpans l t = true ↔ ∃ s ∈ l, s.lo ≤ t ∧ t ≤ s.hi := by
  unfold inSpans
  rw [List.any_eq_true]
  constructor
  · rintro ⟨s, h1, h2⟩; exact ⟨s, h1, within_iff.1 h2⟩
  · rintro ⟨s, h1, h2⟩; exact ⟨s, h1, within_iff.2 h2⟩
theorem arrive_sub {o' o : List Span} {t d : Int} (ht : 0 ≤ t) (hd : okTime d) (ho : ∀ s ∈ o', 0 ≤ s.lo ∧ s.lo ≤ s.hi) (hsub : ∀ u : Nat, inSpans o' (u : Int) = true → inSpans o (u : Int) = true) (hle : arriveF o' t d ≤ 2880) : arriveF o t d ≤ arriveF o' t d := by
  obtain ⟨s, hs, h1, h2⟩ := (arrive_le_iff ht hd hle).1 (Int.le_refl _)
  have hso := ho s hs
  refine (arrive_le_iff ht hd hle).2 ?_
  have hu : ((max t s.lo).toNat : Int) = max t s.lo := by omega
  have hin := hsub (max t s.lo).toNat (inSpans_iff.2 ⟨s, hs, by omega, by omega⟩)
  rw [hu] at hin
  obtain ⟨s2, hs2, k1, k2⟩ := inSpans_iff.1 hin
  exact ⟨s2, hs2, by omega, by omega⟩
theorem reach_sub {M n : Net} {p : Party} (hMn : LessNet M n) (hM : M.Good) (hn : n.Good) (hp : p.Good) {x s y t : Int} (hs : 0 ≤ s ∧ s ≤ 2880) (hx : 0 ≤ x ∧ x < n.places)
    (h : Reach (waysL M p (-1)) (fun x => (spanW x p).hi) x s y t) : ∃ t', t' ≤ t ∧ Reach (waysL n p (-1)) (fun x => (spanW x p).hi) x s y t' := by
  have okM := (ways_ok hM hp (-1)).1
  have okN := (ways_ok hn hp (-1)).1
  induction h with
  | refl => exact ⟨s, Int.le_refl _, .refl⟩
  | @step y t w hr hm hf hle ih =>
    obtain ⟨t', ht', hr'⟩ := ih
    obtain ⟨i, x'⟩ := w
    obtain ⟨h1, h2, h3⟩ := ways_iff.1 hm
    dsimp only at h1 h2 h3 hf hle ⊢
    obtain ⟨x0, g1, g2, g3⟩ := hMn.path i x' h1
    have hrM := hr.range okM hs (by rw [hMn.places]; exact hx)
    have hrN := hr'.range okN hs hx
    have hdt : (spanW x' p).hi = (spanW x0 p).hi := by rw [g2]; rfl
    have hokx := (okN (i, x0) (ways_iff.2 ⟨g1, by rw [g2] at h2; exact h2, h3⟩)).2.2
    dsimp only at hokx
    have hop := (hM.path x' (List.mem_of_getElem? h1)).opens
    rw [hdt] at hle ⊢
    have a1 := arrive_sub (t := t) (by omega) hokx (fun s hs => ⟨(hop s hs).1, (hop s hs).2.1⟩) g3 hle
    have a2 := arrive_mono (opens := x0.opens) (t := t') (t' := t) (by omega) ht' hokx
    have hto : x'.to = x0.to := by rw [g2]
    have hfr : x'.frm = x0.frm := by rw [g2]
    rw [hto]
    refine ⟨arriveF x0.opens t' (spanW x0 p).hi, by omega, ?_⟩
    exact .step (i, x0) hr' (ways_iff.2 ⟨g1, by rw [g2] at h2; exact h2, h3⟩) (by dsimp only; rw [← hfr]; exact hf) (by dsimp only; omega)
theorem sooner {M n : Net} {p : Party} (hMn : LessNet M n) (hM : M.Good) (hn : n.Good) (hp : p.Good) {frm start : Int} (hs : 0 ≤ start ∧ start ≤ 2880) (hx : 0 ≤ frm ∧ frm < n.places) {y : Int} (hy : 0 ≤ y ∧ y < n.places)
    (hb : 0 ≤ told1 (getI (arrivalsL M p spanHi frm start (-1)) y)) : 0 ≤ told1 (getI (arrivalsL n p spanHi frm start (-1)) y) ∧ told1 (getI (arrivalsL n p spanHi frm start (-1)) y) ≤ told1 (getI (arrivalsL M p spanHi frm start (-1)) y) := by
  have hv : never = 1073741824 := rfl
  have sM := arr_spec (q := spanHi) (start := start) (ways_ok hM hp (-1)).1 (by rw [hMn.places]; exact hx) hs
  have sN := arr_spec (q := spanHi) (start := start) (ways_ok hn hp (-1)).1 hx hs
  obtain ⟨b, hb0⟩ : ∃ b, b = getI (arrivalsL M p spanHi frm start (-1)) y := ⟨_, rfl⟩
  obtain ⟨a, ha0⟩ : ∃ a, a = getI (arrivalsL n p spanHi frm start (-1)) y := ⟨_, rfl⟩
  have k1 := sM.1 y hy.1 (by rw [hMn.places]; exact hy.2)
  have k2 := sN.1 y hy.1 hy.2
  have k3 := sN.2 y
  rw [← hb0] at hb k1 ⊢
  rw [← ha0] at k2 k3 ⊢
  unfold told1 at hb ⊢
  rcases k1 with k1 | ⟨k1, k1', k1''⟩
  · rw [if_pos k1] at hb; omega
  · obtain ⟨t', ht', hr⟩ := reach_sub hMn hM hn hp hs hx k1''
    have := k3 t' hr
    rcases k2 with k2 | ⟨k2, k2', _⟩
    · omega
    · rw [if_neg (by omega), if_neg (by omega)]
      omega
def safeN (n : Net) (rules : List Rule) (S : List (List Hour)) (H : Nat) : Net := ⟨n.places, n.paths.mapIdx (safeP rules S H)⟩
theorem safe_cases (rules : List Rule) (S : List (List Hour)) (H i : Nat) (x : Path) : safeP rules S H i x = x ∨ safeP rules S H i x = { x with opens := safeOpens x.opens (openS (ofPath rules i) S H) } := by
  unfold safeP
  split
  · exact .inl rfl
  · exact .inr rfl
theorem safe_spans (o s : List Span) : ∀ x ∈ safeOpens o s, 0 ≤ x.lo ∧ x.lo ≤ x.hi ∧ x.hi ≤ 2880 := by
  intro x hx
  have := spansQ_ok _ 2881 x (List.mem_of_mem_take hx)
  omega
theorem safe_good {n : Net} (hn : n.Good) (rules : List Rule) (S : List (List Hour)) (H : Nat) : (safeN n rules S H).Good := by
  refine ⟨hn.places, by unfold safeN; rw [List.length_mapIdx]; exact hn.paths, fun x' hx' => ?_⟩
  obtain ⟨i, hi⟩ := List.getElem?_of_mem hx'
  unfold safeN at hi
  rw [List.getElem?_mapIdx] at hi
  obtain ⟨x, hx, rfl⟩ := Option.map_eq_some_iff.1 hi
  have hg := hn.path x (List.mem_of_getElem? hx)
  have hl := safe_len hn rules S H i (List.mem_of_getElem? hx)
  rcases safe_cases rules S H i x with e | e
  · rw [e]; exact ⟨hg.frm, hg.to, hg.ne, hg.grade, hg.time, hg.snow, hg.len, hg.opens⟩
  · rw [e] at hl ⊢
    exact ⟨hg.frm, hg.to, hg.ne, hg.grade, hg.time, hg.snow, hl, safe_spans _ _⟩
theorem safe_less (n : Net) (rules : List Rule) (S : List (List Hour)) (H : Nat) : LessNet (safeN n rules S H) n := by
  refine ⟨rfl, fun i x' hi => ?_⟩
  unfold safeN at hi
  rw [List.getElem?_mapIdx] at hi
  obtain ⟨x, hx, rfl⟩ := Option.map_eq_some_iff.1 hi
  refine ⟨x, hx, ?_, fun u hu => ?_⟩
  · rcases safe_cases rules S H i x with e | e <;> rw [e]
  · rcases safe_cases rules S H i x with e | e
    · rw [e] at hu; exact hu
    · rw [e] at hu
      exact (safe_in hu).1
theorem safe_small {n : Net} (hu : n.Small) (hn : n.Good) (rules : List Rule) (S : List (List Hour)) (H : Nat) : (safeN n rules S H).Small := by
  have hg := safe_good hn rules S H
  refine ⟨by have := hg.paths; omega, fun x hx => by have := (hg.path x hx).len; omega⟩
end Go.Ab
namespace Go.Ab
open Go.RowKit Go.Proofs
set_option maxHeartbeats 16000000
set_option maxRecDepth 20000
attribute [local irreducible] WalkL Walk
theorem app_cons {α : Type} (a : α) (l m : List α) : List.append (a :: l) m = a :: List.append l m := rfl
theorem app_nil {α : Type} (m : List α) : List.append [] m = m := rfl
attribute [go_sem] app_cons app_nil
def badRulesW (F : List (List Hour)) (u : RuledX) (k : WalkX) : Bool :=
  far5 F k.seen || (farRules u || ((crE u.net u.rules F k.seen true != 0) || (decide (k.ease.wind < 0) || (decide (k.ease.rain < 0) || (decide (k.ease.temp < 0) || (decide (k.ease.wind > 1000) || (decide (k.ease.rain > 1000) || (decide (k.ease.temp > 1000) || (decide (k.ease.less < 0) || decide (k.ease.less > 100))))))))))
def badWalk (n : Net) (k : WalkX) : Bool := (checkPartyF n k.party != 0) || (!withinB k.frm 0 (n.places - 1) || !withinB k.start 0 2880)
theorem ruleRows_push (l : List Rule) (x : Rule) : ruleRows (l ++ [x]) = ruleRows l ++ [x.row] := by simp [ruleRows]
theorem f6 (F : List (List Hour)) (u : RuledX) (k : WalkX) (hs : ForeSmall F) (hu : u.net.Small) (hr : u.rules.length < 2 ^ 30) (hsl : k.seen.length < 2 ^ 30) :
    Fn Tryz.prog 6 [.agg [.sl (scenRows F)], .agg u.cells, .agg k.cells] (.bool true) := by
  obtain ⟨n, rules, pth⟩ := u
  dsimp only at hu hr
  have h9 := f9
  have h7 := f7 F k.seen hs
  have h8 := f8 ⟨n, rules, pth⟩ hu
  have h19 := f19 n rules F k.seen true hu hr hs hsl
  rw [Net.cells_eq] at h19
  rw [RuledX.cells] at h8
  dsimp only at h8
  refine fn_walk 273 Tryz.call6 Tryz.func6 rfl (by decide) fun J => ?_
  simp (maxSteps := 4000000) only [go_sem, St.start, Tryz.ntmps6, Tryz.results6, WalkX.cells, RuledX.cells]
  repeat (first | refine walkL_seq ?_ | refine walkL_skip ?_ | refine walkL_block ?_ | (refine walkL_region fun K hK => ?_; simp (maxSteps := 4000000) only [go_sem]; refine hK _ ?_; clear hK K) | refine walkL_nil ?_ | refine walkL_ret ?_ | refine walkL_exit ?_ | refine blockA_here ?_ | refine blockA_other rfl ?_ | refine blockA_ret ?_ | refine blockA_normal ?_ | refine thenA_ret ?_ | refine thenA_exit ?_ | refine thenA_normal ?_)
  refine walkL_meetS [(92, .d (.bool (badRulesW F ⟨n, rules, pth⟩ k)))] [] ?_ ?_
  · refine walkL_region fun K hK => ?_
    simp (maxSteps := 4000000) only [go_sem]
    refine ⟨_, .lent (hf := h7) (hd := rfl) (hr := rfl), ?_⟩
    simp (maxSteps := 4000000) only [go_sem]
    by_cases ho0 : (far5 F k.seen) = true
    · simp (maxSteps := 4000000) only [go_sem, ho0]
      refine hK _ ?_
      clear hK K
      refine walkL_nil ?_
      refine thenA_normal ?_
      refine ⟨rfl, ?_⟩
      rw [show (badRulesW F ⟨n, rules, pth⟩ k) = (true) from by simp [badRulesW, ho0]]
      simp (maxSteps := 4000000) only [go_sem]
      refine weak_of [] ?_ ?_ rfl rfl <;> simp [lessT, lessM, lessB, AV.less]
    · simp (maxSteps := 4000000) only [go_sem, ho0]
      refine ⟨_, .lent (hf := h8) (hd := rfl) (hr := rfl), ?_⟩
      simp (maxSteps := 4000000) only [go_sem, ho0]
      by_cases ho1 : (farRules ⟨n, rules, pth⟩) = true
      · simp (maxSteps := 4000000) only [go_sem, ho0, ho1]
        refine hK _ ?_
        clear hK K
        refine walkL_nil ?_
        refine thenA_normal ?_
        refine ⟨rfl, ?_⟩
        rw [show (badRulesW F ⟨n, rules, pth⟩ k) = (true) from by simp [badRulesW, ho0, ho1]]
        simp (maxSteps := 4000000) only [go_sem]
        refine weak_of [] ?_ ?_ rfl rfl <;> simp [lessT, lessM, lessB, AV.less]
      · simp (maxSteps := 4000000) only [go_sem, ho0, ho1]
        refine ⟨_, .lent (hf := h19) (hd := rfl) (hr := rfl), ?_⟩
        simp (maxSteps := 4000000) only [go_sem, ho0, ho1]
        by_cases ho2 : (crE n rules F k.seen true != 0) = true
        · simp (maxSteps := 4000000) only [go_sem, ho0, ho1, ho2]
          refine hK _ ?_
          clear hK K
          refine walkL_nil ?_
          refine thenA_normal ?_
          refine ⟨rfl, ?_⟩
          rw [show (badRulesW F ⟨n, rules, pth⟩ k) = (true) from by simp [badRulesW, ho0, ho1, ho2]]
          simp (maxSteps := 4000000) only [go_sem]
          refine weak_of [] ?_ ?_ rfl rfl <;> simp [lessT, lessM, lessB, AV.less]
        · simp (maxSteps := 4000000) only [go_sem, ho0, ho1, ho2]
          by_cases ho3 : (decide (k.ease.wind < 0)) = true
          · simp (maxSteps := 4000000) only [go_sem, ho0, ho1, ho2, ho3]
            refine hK _ ?_
            clear hK K
            refine walkL_nil ?_
            refine thenA_normal ?_
            refine ⟨rfl, ?_⟩
            rw [show (badRulesW F ⟨n, rules, pth⟩ k) = (true) from by simp [badRulesW, ho0, ho1, ho2, ho3]]
            simp (maxSteps := 4000000) only [go_sem]
            refine weak_of [] ?_ ?_ rfl rfl <;> simp [lessT, lessM, lessB, AV.less]
          · simp (maxSteps := 4000000) only [go_sem, ho0, ho1, ho2, ho3]
            by_cases ho4 : (decide (k.ease.rain < 0)) = true
            · simp (maxSteps := 4000000) only [go_sem, ho0, ho1, ho2, ho3, ho4]
              refine hK _ ?_
              clear hK K
              refine walkL_nil ?_
              refine thenA_normal ?_
              refine ⟨rfl, ?_⟩
              rw [show (badRulesW F ⟨n, rules, pth⟩ k) = (true) from by simp [badRulesW, ho0, ho1, ho2, ho3, ho4]]
              simp (maxSteps := 4000000) only [go_sem]
              refine weak_of [] ?_ ?_ rfl rfl <;> simp [lessT, lessM, lessB, AV.less]
            · simp (maxSteps := 4000000) only [go_sem, ho0, ho1, ho2, ho3, ho4]
              by_cases ho5 : (decide (k.ease.temp < 0)) = true
              · simp (maxSteps := 4000000) only [go_sem, ho0, ho1, ho2, ho3, ho4, ho5]
                refine hK _ ?_
                clear hK K
                refine walkL_nil ?_
                refine thenA_normal ?_
                refine ⟨rfl, ?_⟩
                rw [show (badRulesW F ⟨n, rules, pth⟩ k) = (true) from by simp [badRulesW, ho0, ho1, ho2, ho3, ho4, ho5]]
                simp (maxSteps := 4000000) only [go_sem]
                refine weak_of [] ?_ ?_ rfl rfl <;> simp [lessT, lessM, lessB, AV.less]
              · simp (maxSteps := 4000000) only [go_sem, ho0, ho1, ho2, ho3, ho4, ho5]
                by_cases ho6 : (decide (k.ease.wind > 1000)) = true
                · simp (maxSteps := 4000000) only [go_sem, ho0, ho1, ho2, ho3, ho4, ho5, ho6]
                  refine hK _ ?_
                  clear hK K
                  refine walkL_nil ?_
                  refine thenA_normal ?_
                  refine ⟨rfl, ?_⟩
                  rw [show (badRulesW F ⟨n, rules, pth⟩ k) = (true) from by simp [badRulesW, ho0, ho1, ho2, ho3, ho4, ho5, ho6]]
                  simp (maxSteps := 4000000) only [go_sem]
                  refine weak_of [] ?_ ?_ rfl rfl <;> simp [lessT, lessM, lessB, AV.less]
                · simp (maxSteps := 4000000) only [go_sem, ho0, ho1, ho2, ho3, ho4, ho5, ho6]
                  by_cases ho7 : (decide (k.ease.rain > 1000)) = true
                  · simp (maxSteps := 4000000) only [go_sem, ho0, ho1, ho2, ho3, ho4, ho5, ho6, ho7]
                    refine hK _ ?_
                    clear hK K
                    refine walkL_nil ?_
                    refine thenA_normal ?_
                    refine ⟨rfl, ?_⟩
                    rw [show (badRulesW F ⟨n, rules, pth⟩ k) = (true) from by simp [badRulesW, ho0, ho1, ho2, ho3, ho4, ho5, ho6, ho7]]
                    simp (maxSteps := 4000000) only [go_sem]
                    refine weak_of [] ?_ ?_ rfl rfl <;> simp [lessT, lessM, lessB, AV.less]
                  · simp (maxSteps := 4000000) only [go_sem, ho0, ho1, ho2, ho3, ho4, ho5, ho6, ho7]
                    by_cases ho8 : (decide (k.ease.temp > 1000)) = true
                    · simp (maxSteps := 4000000) only [go_sem, ho0, ho1, ho2, ho3, ho4, ho5, ho6, ho7, ho8]
                      refine hK _ ?_
                      clear hK K
                      refine walkL_nil ?_
                      refine thenA_normal ?_
                      refine ⟨rfl, ?_⟩
                      rw [show (badRulesW F ⟨n, rules, pth⟩ k) = (true) from by simp [badRulesW, ho0, ho1, ho2, ho3, ho4, ho5, ho6, ho7, ho8]]
                      simp (maxSteps := 4000000) only [go_sem]
                      refine weak_of [] ?_ ?_ rfl rfl <;> simp [lessT, lessM, lessB, AV.less]
                    · simp (maxSteps := 4000000) only [go_sem, ho0, ho1, ho2, ho3, ho4, ho5, ho6, ho7, ho8]
                      by_cases ho9 : (decide (k.ease.less < 0)) = true
                      · simp (maxSteps := 4000000) only [go_sem, ho0, ho1, ho2, ho3, ho4, ho5, ho6, ho7, ho8, ho9]
                        refine hK _ ?_
                        clear hK K
                        refine walkL_nil ?_
                        refine thenA_normal ?_
                        refine ⟨rfl, ?_⟩
                        rw [show (badRulesW F ⟨n, rules, pth⟩ k) = (true) from by simp [badRulesW, ho0, ho1, ho2, ho3, ho4, ho5, ho6, ho7, ho8, ho9]]
                        simp (maxSteps := 4000000) only [go_sem]
                        refine weak_of [] ?_ ?_ rfl rfl <;> simp [lessT, lessM, lessB, AV.less]
                      · simp (maxSteps := 4000000) only [go_sem, ho0, ho1, ho2, ho3, ho4, ho5, ho6, ho7, ho8, ho9]
                        refine hK _ ?_
                        clear hK K
                        refine walkL_nil ?_
                        refine thenA_normal ?_
                        refine ⟨rfl, ?_⟩
                        rw [show (badRulesW F ⟨n, rules, pth⟩ k) = (decide (k.ease.less > 100)) from by simp [badRulesW, ho0, ho1, ho2, ho3, ho4, ho5, ho6, ho7, ho8, ho9]]
                        simp (maxSteps := 4000000) only [go_sem]
                        refine weak_of [] ?_ ?_ rfl rfl <;> simp [lessT, lessM, lessB, AV.less]
  cases hbad : badRulesW F ⟨n, rules, pth⟩ k
  · simp (maxSteps := 4000000) only [go_sem]
    obtain ⟨b3, b4, b5, b6, b7, b8, b9, b10, b11⟩ : crE n rules F k.seen true = 0 ∧ 0 ≤ k.ease.wind ∧ 0 ≤ k.ease.rain ∧ 0 ≤ k.ease.temp ∧ k.ease.wind ≤ 1000 ∧ k.ease.rain ≤ 1000 ∧ k.ease.temp ≤ 1000 ∧ 0 ≤ k.ease.less ∧ k.ease.less ≤ 100 := by
      unfold badRulesW at hbad
      simp only [Bool.or_eq_false_iff, Bool.not_eq_false', bne_eq_false_iff_eq, decide_eq_false_iff_not] at hbad
      obtain ⟨_, _, c1, c2, c3, c4, c5, c6, c7, c8, c9⟩ := hbad
      exact ⟨c1, by omega, by omega, by omega, by omega, by omega, by omega, by omega, by omega⟩
    have hru : ∀ p : Int, -1 ≤ p → p ≤ (n.paths.length : Int) - 1 → ruledE n rules F k.seen p = 0 := fun p h1 h2 => by
      rw [ruledE_cr, within_iff.2 ⟨h1, h2⟩]
      exact b3
    obtain ⟨hg, hsi, hne, hbn, hbr, _⟩ := ruled_all (hru (-1) (by omega) (by omega))
    have hnG : n.Good := good_iff.1 (by rw [hbn]; decide)
    obtain ⟨hrl, hro⟩ := rules_ok hbr
    have hup := hu.paths
    have hF := hg.scen
    have hHo := hg.hours
    obtain ⟨R2, hR2⟩ : ∃ R2, R2 = rules.map (easeR k.ease.wind k.ease.rain k.ease.temp k.ease.less) := ⟨_, rfl⟩
    have hR2l : R2.length = rules.length := by rw [hR2, List.length_map]
    have hbr2 : badRules n R2 = false := by rw [hR2]; exact ease_ok hbr b4 b5 b6 b10
    have hru2 : ∀ p : Int, -1 ≤ p → p ≤ (n.paths.length : Int) - 1 → ruledE n R2 F k.seen p = 0 := fun p h1 h2 => by
      have := hru p h1 h2
      rw [ruledE_cr] at this ⊢
      unfold crE at this ⊢
      rw [hbr2]
      rw [hbr] at this
      exact this
    repeat (first | refine walkL_true rfl ?_ | refine walkL_false rfl ?_ | refine walkL_seq ?_ | refine walkL_skip ?_ | refine walkL_block ?_ | (refine walkL_region fun K hK => ?_; simp (maxSteps := 4000000) only [go_sem]; refine hK _ ?_; clear hK K) | refine walkL_nil ?_ | refine walkL_ret ?_ | refine walkL_exit ?_ | refine blockA_here ?_ | refine blockA_other rfl ?_ | refine blockA_ret ?_ | refine blockA_normal ?_ | refine thenA_ret ?_ | refine thenA_exit ?_ | refine thenA_normal ?_)
    clear h7 h8 h19
    refine walkL_loopS (fun (i : Nat) => [(8, .d (.i i)), (7, .own 123)]) (fun i => [(123, some (.arr 79 6 (ruleRows ((rules.take i).map (easeR k.ease.wind k.ease.rain k.ease.temp k.ease.less)))))]) (fun i => i ≤ rules.length) (fun i => rules.length - i) 0 ?_ (Nat.zero_le _) ?_
    · simp (maxSteps := 4000000) only [go_sem]
      refine weak_of [123] ?_ ?_ rfl rfl <;> simp [lessT, lessM, lessB, AV.less]
      all_goals first | done | rfl
    · intro i hi
      simp (maxSteps := 4000000) only [go_sem]
      repeat (first | refine walkL_seq ?_ | refine walkL_skip ?_ | refine walkL_block ?_ | (refine walkL_region fun K hK => ?_; simp (maxSteps := 4000000) only [go_sem, ruleRows_len]; refine hK _ ?_; clear hK K) | refine walkL_nil ?_ | refine walkL_ret ?_ | refine walkL_exit ?_ | refine blockA_here ?_ | refine blockA_other rfl ?_ | refine blockA_ret ?_ | refine blockA_normal ?_ | refine thenA_ret ?_ | refine thenA_exit ?_ | refine thenA_normal ?_)
      refine walkL_cond rfl (fun hb => ?_) (fun hb => ?_)
      · have hlt : i < rules.length := by simpa using hb
        have hw : IntKind.i64.wrap ((i : Int) + 1) = ((i + 1 : Nat) : Int) := by rw [wr_small (by omega)]; simp
        obtain ⟨r, hx⟩ : ∃ r, rules[i]? = some r := ⟨_, List.getElem?_eq_getElem hlt⟩
        have g1 := ruleRows_get hx
        rw [Rule.row] at g1
        obtain ⟨_, k2, k3⟩ := hro r (List.mem_of_getElem? hx)
        have h28 := f28 r.lim k.ease k3 ⟨b4, b7⟩ ⟨b5, b8⟩ ⟨b6, b9⟩
        have w1 : IntKind.i64.wrap (r.after - k.ease.less) = r.after - k.ease.less := wr_small (by omega)
        have htk : (rules.take (i + 1)).map (easeR k.ease.wind k.ease.rain k.ease.temp k.ease.less) = (rules.take i).map (easeR k.ease.wind k.ease.rain k.ease.temp k.ease.less) ++ [⟨r.path, max 0 (r.after - k.ease.less), widerL r.lim k.ease.wind k.ease.rain k.ease.temp⟩] := by
          rw [List.take_add_one, hx]; simp [easeR]
        obtain ⟨A, hA⟩ : ∃ A, A = (rules.take i).map (easeR k.ease.wind k.ease.rain k.ease.temp k.ease.less) := ⟨_, rfl⟩
        have hAl : A.length = i := by rw [hA]; simp; omega
        have hn1 : A.length + 1 ≤ 549755813888 := by omega
        rw [← hA] at htk ⊢
        obtain ⟨W, hW⟩ : ∃ W, W = widerL r.lim k.ease.wind k.ease.rain k.ease.temp := ⟨_, rfl⟩
        rw [← hW] at h28 htk
        rw [Limits.row, Limits.row, EaseX.cells] at h28
        repeat (first | refine walkL_true rfl ?_ | refine walkL_false rfl ?_ | refine walkL_seq ?_ | refine walkL_skip ?_ | refine walkL_block ?_ | (refine walkL_region fun K hK => ?_; simp (maxSteps := 4000000) only [go_sem, g1, w1, hn1, hw, ruleRows_len, ruleRows_head]; (repeat (first | (refine ⟨_, .lent (hf := h28) (hd := rfl) (hr := rfl), ?_⟩; simp (maxSteps := 4000000) only [go_sem, g1, w1, hn1, hw, ruleRows_len, ruleRows_head]) | (refine ⟨_, .given (hf := h28) (hd := rfl) (ha := rfl), ?_⟩; simp (maxSteps := 4000000) only [go_sem, g1, w1, hn1, hw, ruleRows_len, ruleRows_head]))); refine hK _ ?_; clear hK K) | refine walkL_nil ?_ | refine walkL_ret ?_ | refine walkL_exit ?_ | refine blockA_here ?_ | refine blockA_other rfl ?_ | refine blockA_ret ?_ | refine blockA_normal ?_ | refine thenA_ret ?_ | refine thenA_exit ?_ | refine thenA_normal ?_)
        refine ⟨rfl, i + 1, ?_, hlt, by omega⟩
        rw [htk, ruleRows_push, Rule.row]
        refine weak_of [] ?_ ?_ rfl rfl <;> simp [lessT, lessM, lessB, AV.less]
        all_goals first | done | rfl
      · have he : i = rules.length := by (have : ¬ i < rules.length := by simpa using hb); omega
        subst he
        rw [List.take_length, ← hR2]
        repeat (first | refine walkL_true rfl ?_ | refine walkL_false rfl ?_ | refine walkL_seq ?_ | refine walkL_skip ?_ | refine walkL_block ?_ | (refine walkL_region fun K hK => ?_; simp (maxSteps := 4000000) only [go_sem]; refine hK _ ?_; clear hK K) | refine walkL_nil ?_ | refine walkL_ret ?_ | refine walkL_exit ?_ | refine blockA_here ?_ | refine blockA_other rfl ?_ | refine blockA_ret ?_ | refine blockA_normal ?_ | refine thenA_ret ?_ | refine thenA_exit ?_ | refine thenA_normal ?_)
        refine walkL_release [123] ?_
        simp (maxSteps := 4000000) only [go_sem]
        refine walkL_loopS (fun (i : Nat) => [(10, .d (.i i)), (11, .undef), (12, .undef), (13, .undef), (14, .undef), (15, .undef), (16, .undef)]) (fun _ => []) (fun i => i ≤ n.paths.length) (fun i => n.paths.length - i) 0 ?_ (Nat.zero_le _) ?_
        · simp (maxSteps := 4000000) only [go_sem]
          refine weak_of [] ?_ ?_ rfl rfl <;> simp [lessT, lessM, lessB, AV.less]
          all_goals first | done | rfl
        · intro i hi
          simp (maxSteps := 4000000) only [go_sem]
          repeat (first | refine walkL_seq ?_ | refine walkL_skip ?_ | refine walkL_block ?_ | (refine walkL_region fun K hK => ?_; simp (maxSteps := 4000000) only [go_sem, pathRows_len]; refine hK _ ?_; clear hK K) | refine walkL_nil ?_ | refine walkL_ret ?_ | refine walkL_exit ?_ | refine blockA_here ?_ | refine blockA_other rfl ?_ | refine blockA_ret ?_ | refine blockA_normal ?_ | refine thenA_ret ?_ | refine thenA_exit ?_ | refine thenA_normal ?_)
          refine walkL_cond rfl (fun hb => ?_) (fun hb => ?_)
          · have hlt : i < n.paths.length := by simpa using hb
            have hw : IntKind.i64.wrap ((i : Int) + 1) = ((i + 1 : Nat) : Int) := by rw [wr_small (by omega)]; simp
            have h12 := f12o n rules F k.seen (i : Int) hu hr hs hsl
            have m12 := f12o n R2 F k.seen (i : Int) hu (by omega) hs hsl
            have hi0 : ¬ ((i : Int) < 0) := by omega
            have k12 : opnF n rules F k.seen (i : Int) = (openS (ofPath rules i) (scensOf (possL F k.seen)) (hd0 F).length, openM (ofPath rules i) (scensOf (possL F k.seen)) (hd0 F).length, 0) := by
              unfold opnF
              rw [if_neg hi0, if_pos (hru i (by omega) (by omega))]
            have l12 : opnF n R2 F k.seen (i : Int) = (openS (ofPath R2 i) (scensOf (possL F k.seen)) (hd0 F).length, openM (ofPath R2 i) (scensOf (possL F k.seen)) (hd0 F).length, 0) := by
              unfold opnF
              rw [if_neg hi0, if_pos (hru2 i (by omega) (by omega))]
            have hwt := ease_within (rules := ofPath rules (i : Int)) (a := k.ease.wind) (b := k.ease.rain) (c := k.ease.temp) (d := k.ease.less) (fun r hr' => (hro r (ofPath_sub r hr')).2.2) b4 b5 b6 b10 (fun r hr' => (hro r (ofPath_sub r hr')).2.1.1) (scensOf (possL F k.seen)) (hd0 F).length
            rw [← ease_path, ← hR2] at hwt
            have h30 := f30 F (hd0 F) (headD_get (by omega))
            rw [k12, Net.cells_eq] at h12
            rw [l12, Net.cells_eq] at m12
            dsimp only at h12 m12
            obtain ⟨A, hA⟩ : ∃ A, A = openS (ofPath rules i) (scensOf (possL F k.seen)) (hd0 F).length := ⟨_, rfl⟩
            obtain ⟨B, hB⟩ : ∃ B, B = openM (ofPath rules i) (scensOf (possL F k.seen)) (hd0 F).length := ⟨_, rfl⟩
            obtain ⟨A2, hA2⟩ : ∃ A2, A2 = openS (ofPath R2 i) (scensOf (possL F k.seen)) (hd0 F).length := ⟨_, rfl⟩
            obtain ⟨B2, hB2⟩ : ∃ B2, B2 = openM (ofPath R2 i) (scensOf (possL F k.seen)) (hd0 F).length := ⟨_, rfl⟩
            have lA : A.length < 2 ^ 30 := by
              have := spansQ_len (fun j => (scensOf (possL F k.seen)).all fun s => keepsB alwaysB (ofPath rules i) s j) (hd0 F).length
              rw [hA]; unfold openS; omega
            have lA2 : A2.length < 2 ^ 30 := by
              have := spansQ_len (fun j => (scensOf (possL F k.seen)).all fun s => keepsB alwaysB (ofPath R2 i) s j) (hd0 F).length
              rw [hA2]; unfold openS; omega
            rw [← hA, ← hB] at h12
            rw [← hA2, ← hB2] at m12
            rw [← hA, ← hA2] at hwt
            have h29 := f29 A A2 (hd0 F).length lA lA2 (by omega)
            rw [hwt] at h29
            obtain ⟨H, hH⟩ : ∃ H, H = (hd0 F).length := ⟨_, rfl⟩
            rw [← hH] at h29 h30
            repeat (first | refine walkL_true rfl ?_ | refine walkL_false rfl ?_ | refine walkL_seq ?_ | refine walkL_skip ?_ | refine walkL_block ?_ | (refine walkL_region fun K hK => ?_; simp (maxSteps := 4000000) only [go_sem, hw]; (repeat (first | (refine ⟨_, .lent (hf := h12) (hd := rfl) (hr := rfl), ?_⟩; simp (maxSteps := 4000000) only [go_sem, hw]) | (refine ⟨_, .lent (hf := m12) (hd := rfl) (hr := rfl), ?_⟩; simp (maxSteps := 4000000) only [go_sem, hw]) | (refine ⟨_, .lent (hf := h30) (hd := rfl) (hr := rfl), ?_⟩; simp (maxSteps := 4000000) only [go_sem, hw]) | (refine ⟨_, .lent (hf := h29) (hd := rfl) (hr := rfl), ?_⟩; simp (maxSteps := 4000000) only [go_sem, hw]) | (refine ⟨_, .given (hf := h12) (hd := rfl) (ha := rfl), ?_⟩; simp (maxSteps := 4000000) only [go_sem, hw]) | (refine ⟨_, .given (hf := m12) (hd := rfl) (ha := rfl), ?_⟩; simp (maxSteps := 4000000) only [go_sem, hw]) | (refine ⟨_, .given (hf := h30) (hd := rfl) (ha := rfl), ?_⟩; simp (maxSteps := 4000000) only [go_sem, hw]) | (refine ⟨_, .given (hf := h29) (hd := rfl) (ha := rfl), ?_⟩; simp (maxSteps := 4000000) only [go_sem, hw]))); refine hK _ ?_; clear hK K) | refine walkL_nil ?_ | refine walkL_ret ?_ | refine walkL_exit ?_ | refine blockA_here ?_ | refine blockA_other rfl ?_ | refine blockA_ret ?_ | refine blockA_normal ?_ | refine thenA_ret ?_ | refine thenA_exit ?_ | refine thenA_normal ?_)
            refine ⟨rfl, i + 1, ?_, hlt, by omega⟩
            refine weak_of [] ?_ ?_ rfl rfl <;> simp [lessT, lessM, lessB, AV.less]
          · have he : i = n.paths.length := by (have : ¬ i < n.paths.length := by simpa using hb); omega
            subst he
            have h31 := f31 n k.party hu
            have h32 := f32 n k.frm (by have := hnG.places; omega)
            have h33 := f33 k.start
            rw [Net.cells_eq, Party.cells] at h31
            rw [Net.cells_eq] at h32
            repeat (first | refine walkL_seq ?_ | refine walkL_skip ?_ | refine walkL_block ?_ | (refine walkL_region fun K hK => ?_; simp (maxSteps := 4000000) only [go_sem]; refine hK _ ?_; clear hK K) | refine walkL_nil ?_ | refine walkL_ret ?_ | refine walkL_exit ?_ | refine blockA_here ?_ | refine blockA_other rfl ?_ | refine blockA_ret ?_ | refine blockA_normal ?_ | refine thenA_ret ?_ | refine thenA_exit ?_ | refine thenA_normal ?_)
            refine walkL_meetS [(190, .d (.bool (badWalk n k)))] [] ?_ ?_
            · refine walkL_region fun K hK => ?_
              simp (maxSteps := 4000000) only [go_sem]
              refine ⟨_, .lent (hf := h31) (hd := rfl) (hr := rfl), ?_⟩
              simp (maxSteps := 4000000) only [go_sem]
              by_cases ho0 : (checkPartyF n k.party != 0) = true
              · simp (maxSteps := 4000000) only [go_sem, ho0]
                refine hK _ ?_
                clear hK K
                refine walkL_nil ?_
                refine thenA_normal ?_
                refine ⟨rfl, ?_⟩
                rw [show (badWalk n k) = (true) from by simp [badWalk, ho0]]
                simp (maxSteps := 4000000) only [go_sem]
                refine weak_of [] ?_ ?_ rfl rfl <;> simp [lessT, lessM, lessB, AV.less]
              · simp (maxSteps := 4000000) only [go_sem, ho0]
                refine ⟨_, .lent (hf := h32) (hd := rfl) (hr := rfl), ?_⟩
                simp (maxSteps := 4000000) only [go_sem, ho0]
                by_cases ho1 : (!withinB k.frm 0 (n.places - 1)) = true
                · simp (maxSteps := 4000000) only [go_sem, ho0, ho1]
                  refine hK _ ?_
                  clear hK K
                  refine walkL_nil ?_
                  refine thenA_normal ?_
                  refine ⟨rfl, ?_⟩
                  rw [show (badWalk n k) = (true) from by simp [badWalk, ho0, ho1]]
                  simp (maxSteps := 4000000) only [go_sem]
                  refine weak_of [] ?_ ?_ rfl rfl <;> simp [lessT, lessM, lessB, AV.less]
                · simp (maxSteps := 4000000) only [go_sem, ho0, ho1]
                  refine ⟨_, .lent (hf := h33) (hd := rfl) (hr := rfl), ?_⟩
                  simp (maxSteps := 4000000) only [go_sem, ho0, ho1]
                  refine hK _ ?_
                  clear hK K
                  refine walkL_nil ?_
                  refine thenA_normal ?_
                  refine ⟨rfl, ?_⟩
                  rw [show (badWalk n k) = (!withinB k.start 0 2880) from by simp [badWalk, ho0, ho1]]
                  simp (maxSteps := 4000000) only [go_sem]
                  refine weak_of [] ?_ ?_ rfl rfl <;> simp [lessT, lessM, lessB, AV.less]
            cases hbw : badWalk n k
            · simp (maxSteps := 4000000) only [go_sem]
              obtain ⟨c1, c2, c3⟩ : checkPartyF n k.party = 0 ∧ withinB k.frm 0 (n.places - 1) = true ∧ withinB k.start 0 2880 = true := by
                unfold badWalk at hbw
                simpa using hbw
              have hpG := (checkParty_iff.1 c1).2
              have c2 := within_iff.1 c2
              have c3 := within_iff.1 c3
              have h15 := f15 n rules F k.seen hu hr hs hsl
              have k15 : safeF n rules F k.seen = (safeN n rules (scensOf (possL F k.seen)) (hd0 F).length, 0) := by
                unfold safeF
                rw [if_pos (hru (-1) (by omega) (by omega))]
                rfl
              rw [k15] at h15
              dsimp only at h15
              obtain ⟨M, hM⟩ : ∃ M, M = safeN n rules (scensOf (possL F k.seen)) (hd0 F).length := ⟨_, rfl⟩
              have hMG : M.Good := hM ▸ safe_good hnG rules (scensOf (possL F k.seen)) (hd0 F).length
              have hML : LessNet M n := hM ▸ safe_less n rules (scensOf (possL F k.seen)) (hd0 F).length
              have hMS : M.Small := hM ▸ safe_small hu hnG rules (scensOf (possL F k.seen)) (hd0 F).length
              rw [← hM] at h15
              have h34 := f34 n k.party k.frm k.start hu
              have m34 := f34 M k.party k.frm k.start hMS
              have o1 : openF n k.party [k.frm] [k.start] = 0 := open_iff.2 ⟨hnG, hpG, fun x hx => by simp at hx; subst hx; omega, fun x hx => by simp at hx; subst hx; omega⟩
              have o2 : openF M k.party [k.frm] [k.start] = 0 := open_iff.2 ⟨hMG, hpG, fun x hx => by simp at hx; subst hx; rw [hML.places]; omega, fun x hx => by simp at hx; subst hx; omega⟩
              have e34 : arriveL n k.party k.frm k.start = ((arrivalsL n k.party spanHi k.frm k.start (-1)).map told1, (arrivalsL n k.party spanLo k.frm k.start (-1)).map told1, 0) := by
                unfold arriveL; rw [if_pos o1]
              have f34' : arriveL M k.party k.frm k.start = ((arrivalsL M k.party spanHi k.frm k.start (-1)).map told1, (arrivalsL M k.party spanLo k.frm k.start (-1)).map told1, 0) := by
                unfold arriveL; rw [if_pos o2]
              rw [e34, Net.cells_eq, Party.cells] at h34
              rw [f34', Net.cells_eq, Party.cells] at m34
              rw [Net.cells_eq, Net.cells_eq] at h15
              dsimp only at h34 m34
              have hso := fun (y : Int) (hy : 0 ≤ y ∧ y < n.places) => sooner (M := M) (n := n) (p := k.party) (start := k.start) hML hMG hnG hpG c3 (frm := k.frm) (by omega) hy
              have lA := arrivals_len n k.party spanHi k.frm k.start (-1)
              have lB := arrivals_len M k.party spanHi k.frm k.start (-1)
              rw [hML.places] at lB
              obtain ⟨a, ha⟩ : ∃ a, a = arrivalsL n k.party spanHi k.frm k.start (-1) := ⟨_, rfl⟩
              obtain ⟨b, hb0⟩ : ∃ b, b = arrivalsL M k.party spanHi k.frm k.start (-1) := ⟨_, rfl⟩
              rw [← ha] at h34 hso lA
              rw [← hb0] at m34 hso lB
              have hpl := hnG.places
              have hget : ∀ (l : List Int) (i : Nat), i < l.length → (l.map told1)[i]? = some (told1 (getI l (i : Int))) := fun l i hi => by
                rw [List.getElem?_map, List.getElem?_eq_getElem hi]
                simp [getI, hi]
              have hcmp : ∀ i : Nat, i < (b.map told1).length → ∃ x y, (a.map told1)[i]? = some x ∧ (b.map told1)[i]? = some y ∧ (0 ≤ y → 0 ≤ x ∧ x ≤ y) := fun i hi => by
                rw [List.length_map] at hi
                exact ⟨_, _, hget a i (by omega), hget b i hi, hso (i : Int) (by omega)⟩
              have hab : (a.map told1).length = (b.map told1).length := by rw [List.length_map, List.length_map]; omega
              obtain ⟨a1, ha1⟩ : ∃ a1, a1 = a.map told1 := ⟨_, rfl⟩
              obtain ⟨b1, hb1⟩ : ∃ b1, b1 = b.map told1 := ⟨_, rfl⟩
              obtain ⟨a2, ha2⟩ : ∃ a2, a2 = (arrivalsL n k.party spanLo k.frm k.start (-1)).map told1 := ⟨_, rfl⟩
              obtain ⟨b2, hb2⟩ : ∃ b2, b2 = (arrivalsL M k.party spanLo k.frm k.start (-1)).map told1 := ⟨_, rfl⟩
              rw [← ha1, ← ha2] at h34
              rw [← hb1, ← hb2] at m34
              rw [← ha1, ← hb1] at hcmp hab
              have hb1l : b1.length < 2 ^ 30 := by rw [hb1, List.length_map]; omega
              have nl : ((a1.length : Int) != (b1.length : Int)) = false := by rw [hab]; simp
              repeat (first | refine walkL_true rfl ?_ | refine walkL_false rfl ?_ | refine walkL_seq ?_ | refine walkL_skip ?_ | refine walkL_block ?_ | (refine walkL_region fun K hK => ?_; simp (maxSteps := 4000000) only [go_sem, nl, intRows_len]; (repeat (first | (refine ⟨_, .lent (hf := h15) (hd := rfl) (hr := rfl), ?_⟩; simp (maxSteps := 4000000) only [go_sem, nl, intRows_len]) | (refine ⟨_, .lent (hf := h34) (hd := rfl) (hr := rfl), ?_⟩; simp (maxSteps := 4000000) only [go_sem, nl, intRows_len]) | (refine ⟨_, .lent (hf := m34) (hd := rfl) (hr := rfl), ?_⟩; simp (maxSteps := 4000000) only [go_sem, nl, intRows_len]) | (refine ⟨_, .given (hf := h15) (hd := rfl) (ha := rfl), ?_⟩; simp (maxSteps := 4000000) only [go_sem, nl, intRows_len]) | (refine ⟨_, .given (hf := h34) (hd := rfl) (ha := rfl), ?_⟩; simp (maxSteps := 4000000) only [go_sem, nl, intRows_len]) | (refine ⟨_, .given (hf := m34) (hd := rfl) (ha := rfl), ?_⟩; simp (maxSteps := 4000000) only [go_sem, nl, intRows_len]))); refine hK _ ?_; clear hK K) | refine walkL_nil ?_ | refine walkL_ret ?_ | refine walkL_exit ?_ | refine blockA_here ?_ | refine blockA_other rfl ?_ | refine blockA_ret ?_ | refine blockA_normal ?_ | refine thenA_ret ?_ | refine thenA_exit ?_ | refine thenA_normal ?_)
              refine walkL_loopS (fun (i : Nat) => [(25, .d (.i i))]) (fun _ => []) (fun i => i ≤ b1.length) (fun i => b1.length - i) 0 ?_ (Nat.zero_le _) ?_
              · simp (maxSteps := 4000000) only [go_sem]
                refine weak_of [] ?_ ?_ rfl rfl <;> simp [lessT, lessM, lessB, AV.less]
                all_goals first | done | rfl
              · intro i hi
                simp (maxSteps := 4000000) only [go_sem]
                repeat (first | refine walkL_seq ?_ | refine walkL_skip ?_ | refine walkL_block ?_ | (refine walkL_region fun K hK => ?_; simp (maxSteps := 4000000) only [go_sem, intRows_len]; refine hK _ ?_; clear hK K) | refine walkL_nil ?_ | refine walkL_ret ?_ | refine walkL_exit ?_ | refine blockA_here ?_ | refine blockA_other rfl ?_ | refine blockA_ret ?_ | refine blockA_normal ?_ | refine thenA_ret ?_ | refine thenA_exit ?_ | refine thenA_normal ?_)
                refine walkL_cond rfl (fun hb => ?_) (fun hb => ?_)
                · have hlt : i < b1.length := by simpa using hb
                  have hw : IntKind.i64.wrap ((i : Int) + 1) = ((i + 1 : Nat) : Int) := by rw [wr_small (by omega)]; simp
                  obtain ⟨x, y, gx, gy, hxy⟩ := hcmp i hlt
                  have g1 := intRows_at gx
                  have g2 := intRows_at gy
                  cases qy : decide (y ≥ 0)
                  · repeat (first | refine walkL_true rfl ?_ | refine walkL_false rfl ?_ | refine walkL_seq ?_ | refine walkL_skip ?_ | refine walkL_block ?_ | (refine walkL_region fun K hK => ?_; simp (maxSteps := 4000000) only [go_sem, g1, g2, qy, hw, intRows_len]; refine hK _ ?_; clear hK K) | (refine walkL_drawn (by kernel_rfl) (by kernel_rfl) fun K hK => ?_; simp (maxSteps := 4000000) only [go_sem, g1, g2, qy, hw, intRows_len]; refine ⟨by kernel_rfl, hK _ ?_⟩; clear hK K) | refine walkL_nil ?_ | refine walkL_ret ?_ | refine walkL_exit ?_ | refine blockA_here ?_ | refine blockA_other rfl ?_ | refine blockA_ret ?_ | refine blockA_normal ?_ | refine thenA_ret ?_ | refine thenA_exit ?_ | refine thenA_normal ?_)
                    refine ⟨rfl, i + 1, ?_, hlt, by omega⟩
                    refine weak_of [] ?_ ?_ rfl rfl <;> simp [lessT, lessM, lessB, AV.less]
                  · have hy0 := hxy (of_decide_eq_true qy)
                    have qx : decide (x < 0) = false := decide_eq_false (by omega)
                    have qxy : decide (x > y) = false := decide_eq_false (by omega)
                    repeat (first | refine walkL_true rfl ?_ | refine walkL_false rfl ?_ | refine walkL_seq ?_ | refine walkL_skip ?_ | refine walkL_block ?_ | (refine walkL_region fun K hK => ?_; simp (maxSteps := 4000000) only [go_sem, g1, g2, qy, qx, qxy, hw, intRows_len]; refine hK _ ?_; clear hK K) | (refine walkL_drawn (by kernel_rfl) (by kernel_rfl) fun K hK => ?_; simp (maxSteps := 4000000) only [go_sem, g1, g2, qy, qx, qxy, hw, intRows_len]; refine ⟨by kernel_rfl, hK _ ?_⟩; clear hK K) | refine walkL_nil ?_ | refine walkL_ret ?_ | refine walkL_exit ?_ | refine blockA_here ?_ | refine blockA_other rfl ?_ | refine blockA_ret ?_ | refine blockA_normal ?_ | refine thenA_ret ?_ | refine thenA_exit ?_ | refine thenA_normal ?_)
                    refine ⟨rfl, i + 1, ?_, hlt, by omega⟩
                    refine weak_of [] ?_ ?_ rfl rfl <;> simp [lessT, lessM, lessB, AV.less]
                · have he : i = b1.length := by (have : ¬ i < b1.length := by simpa using hb); omega
                  subst he
                  repeat (first | refine walkL_true rfl ?_ | refine walkL_false rfl ?_ | refine walkL_seq ?_ | refine walkL_skip ?_ | refine walkL_block ?_ | (refine walkL_region fun K hK => ?_; simp (maxSteps := 4000000) only [go_sem]; (repeat (first | (refine ⟨_, .lent (hf := h9) (hd := rfl) (hr := rfl), ?_⟩; simp (maxSteps := 4000000) only [go_sem]) | (refine ⟨_, .given (hf := h9) (hd := rfl) (ha := rfl), ?_⟩; simp (maxSteps := 4000000) only [go_sem]))); refine hK _ ?_; clear hK K) | refine walkL_nil ?_ | refine walkL_ret ?_ | refine walkL_exit ?_ | refine blockA_here ?_ | refine blockA_other rfl ?_ | refine blockA_ret ?_ | refine blockA_normal ?_ | refine thenA_ret ?_ | refine thenA_exit ?_ | refine thenA_normal ?_)
                  simp (maxSteps := 4000000) only [go_sem]
            · simp (maxSteps := 4000000) only [go_sem]
              repeat (first | refine walkL_true rfl ?_ | refine walkL_false rfl ?_ | refine walkL_seq ?_ | refine walkL_skip ?_ | refine walkL_block ?_ | (refine walkL_region fun K hK => ?_; simp (maxSteps := 4000000) only [go_sem]; (repeat (first | (refine ⟨_, .lent (hf := h9) (hd := rfl) (hr := rfl), ?_⟩; simp (maxSteps := 4000000) only [go_sem]) | (refine ⟨_, .given (hf := h9) (hd := rfl) (ha := rfl), ?_⟩; simp (maxSteps := 4000000) only [go_sem]))); refine hK _ ?_; clear hK K) | refine walkL_nil ?_ | refine walkL_ret ?_ | refine walkL_exit ?_ | refine blockA_here ?_ | refine blockA_other rfl ?_ | refine blockA_ret ?_ | refine blockA_normal ?_ | refine thenA_ret ?_ | refine thenA_exit ?_ | refine thenA_normal ?_)
              simp (maxSteps := 4000000) only [go_sem]
  · simp (maxSteps := 4000000) only [go_sem]
    repeat (first | refine walkL_true rfl ?_ | refine walkL_false rfl ?_ | refine walkL_seq ?_ | refine walkL_skip ?_ | refine walkL_block ?_ | (refine walkL_region fun K hK => ?_; simp (maxSteps := 4000000) only [go_sem]; (repeat (first | (refine ⟨_, .lent (hf := h9) (hd := rfl) (hr := rfl), ?_⟩; simp (maxSteps := 4000000) only [go_sem]) | (refine ⟨_, .given (hf := h9) (hd := rfl) (ha := rfl), ?_⟩; simp (maxSteps := 4000000) only [go_sem]))); refine hK _ ?_; clear hK K) | refine walkL_nil ?_ | refine walkL_ret ?_ | refine walkL_exit ?_ | refine blockA_here ?_ | refine blockA_other rfl ?_ | refine blockA_ret ?_ | refine blockA_normal ?_ | refine thenA_ret ?_ | refine thenA_exit ?_ | refine thenA_normal ?_)
    simp (maxSteps := 4000000) only [go_sem]
end Go.Ab
