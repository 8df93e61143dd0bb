/- A walk engine over abstract states, and the contracts of the functions that the statement reaches: part 6. -/
import Derived.Test.YtnlodbjgmfmlnaaGreatWe
set_option linter.unusedVariables false
set_option linter.unusedSimpArgs false
set_option linter.unnecessarySimpa false
namespace Go.Ab
open Go.RowKit Go.Proofs
set_option maxHeartbeats 16000000
set_option maxRecDepth 20000
attribute [local irreducible] WalkL Walk
theorem rowQ_succ' (f : Nat → Int) (i : Nat) : rowQ f (i + 1) (fun _ => true) = rowQ f i (fun _ => true) ++ [f i] := by simp [rowQ, List.range_succ]
theorem load_rowQ {s : Supply} (h0 : suppE s = 0) {c : Nat} (hc : c < s.carr.length) : s.loads[c]? = some (rowQ (fun h => ldAt s.loads c h) s.hours fun _ => true) := by
  have h6 := small6 h0
  obtain ⟨r, hr⟩ : ∃ r, s.loads[c]? = some r := ⟨_, List.getElem?_eq_getElem (by have := h6.len; omega)⟩
  have hl := h6.rows r (List.mem_of_getElem? hr)
  rw [hr]
  congr 1
  refine List.ext_getElem? fun i => ?_
  by_cases hi : i < s.hours
  · rw [rowQ_at _ _ hi, if_pos rfl]
    obtain ⟨x, hx⟩ : ∃ x, r[i]? = some x := ⟨_, List.getElem?_eq_getElem (by omega)⟩
    rw [hx, ldAt, List.getD, hr, Option.getD_some, getI, Int.toNat_natCast, List.getD, hx]
    rfl
  · rw [List.getElem?_eq_none (by omega), List.getElem?_eq_none (by rw [rowQ_len]; omega)]
theorem zf70 (s : Supply) (h0 : suppE s = 0) (hs : SuppSmall s) : Fn Tryz.prog 70 [.agg s.cells] (.sl (listRows s.loads)) := by
  have h6 := small6 h0
  have hH := h6.hours
  have hll := h6.len
  have hfew := h6.few
  obtain ⟨hg, hsi, hpn, _⟩ := look_all (supp_look h0)
  have hF := hg.scen
  have h00 : s.scen[0]? = some (hd0 s.scen) := headD_get (by omega)
  have h48 := zf48 s.scen (hd0 s.scen) h00
  change Fn Tryz.prog 48 _ (.i (s.hours : Int)) at h48
  have c63 := fun (c h : Nat) (hc : c < s.carr.length) (hh : h < s.hours) => zf63 s h0 hs hc hh
  have hrow := fun (c : Nat) (hc : c < s.carr.length) => load_rowQ h0 hc
  rw [Supply.cells] at c63
  obtain ⟨H, hHd⟩ : ∃ H, H = s.hours := ⟨_, rfl⟩
  rw [← hHd] at h48 hH c63 hrow
  refine fn_walk 33 Tryz.call70 Tryz.func70 rfl (by decide) fun J => ?_
  simp (maxSteps := 4000000) only [go_sem, St.start, Tryz.ntmps70, Tryz.results70, Supply.cells]
  repeat (first | refine walkL_seq ?_ | refine walkL_skip ?_ | refine walkL_block ?_ | (refine walkL_region fun K hK => ?_; simp (maxSteps := 4000000) only [go_sem]; refine hK _ ?_; clear hK K) | refine walkL_nil ?_ | refine walkL_ret ?_ | refine walkL_exit ?_ | refine blockA_here ?_ | refine blockA_other rfl ?_ | refine blockA_ret ?_ | refine blockA_normal ?_ | refine thenA_ret ?_ | refine thenA_exit ?_ | refine thenA_normal ?_)
  refine walkL_loopS (fun (k : Nat) => [(4, .d (.i (k : Int))), (3, .own 31)]) (fun k => [(31, some (.arr 34 1 (listRows (s.loads.take k))))]) (fun k => k ≤ s.carr.length) (fun k => s.carr.length - k) 0 ?_ (Nat.zero_le _) ?_
  · simp (maxSteps := 4000000) only [go_sem]
    refine weak_of [31] ?_ ?_ rfl rfl <;> simp [lessT, lessM, lessB, AV.less]
    all_goals first | done | rfl
  · intro k hk
    simp (maxSteps := 4000000) only [go_sem]
    repeat (first | refine walkL_seq ?_ | refine walkL_skip ?_ | refine walkL_block ?_ | (refine walkL_region fun K hK => ?_; simp (maxSteps := 4000000) only [go_sem, carrRows_len]; refine hK _ ?_; clear hK K) | refine walkL_nil ?_ | refine walkL_ret ?_ | refine walkL_exit ?_ | refine blockA_here ?_ | refine blockA_other rfl ?_ | refine blockA_ret ?_ | refine blockA_normal ?_ | refine thenA_ret ?_ | refine thenA_exit ?_ | refine thenA_normal ?_)
    refine walkL_cond rfl (fun hb => ?_) (fun hb => ?_)
    · have hlt : k < s.carr.length := by simpa using hb
      have hw : IntKind.i64.wrap ((k : Int) + 1) = ((k + 1 : Nat) : Int) := by rw [wr_small (by omega)]; simp
      have htk : s.loads.take (k + 1) = s.loads.take k ++ [rowQ (fun h => ldAt s.loads k h) H fun _ => true] := by
        rw [List.take_add_one, hrow k hlt]
        rfl
      have hDl : (s.loads.take k).length ≤ 4 := by simp; omega
      obtain ⟨D, hD⟩ : ∃ D, D = s.loads.take k := ⟨_, rfl⟩
      rw [← hD] at htk hDl ⊢
      obtain ⟨f, hf⟩ : ∃ f : Nat → Int, f = fun h => ldAt s.loads k h := ⟨_, rfl⟩
      rw [← hf] at htk
      repeat (first | refine walkL_seq ?_ | refine walkL_skip ?_ | refine walkL_block ?_ | (refine walkL_region fun K hK => ?_; simp (maxSteps := 4000000) only [go_sem]; refine hK _ ?_; clear hK K) | refine walkL_nil ?_ | refine walkL_ret ?_ | refine walkL_exit ?_ | refine blockA_here ?_ | refine blockA_other rfl ?_ | refine blockA_ret ?_ | refine blockA_normal ?_ | refine thenA_ret ?_ | refine thenA_exit ?_ | refine thenA_normal ?_)
      refine walkL_loopS (fun (h : Nat) => [(6, .d (.i (h : Int))), (5, .own 27)]) (fun h => [(27, some (.arr 3 1 (intRows (rowQ f h fun _ => true))))]) (fun h => h ≤ H) (fun h => H - h) 0 ?_ (Nat.zero_le _) ?_
      · simp (maxSteps := 4000000) only [go_sem]
        refine weak_of [27] ?_ ?_ rfl rfl <;> simp [lessT, lessM, lessB, AV.less]
        all_goals first | done | rfl
      · intro h hh
        have hRl := rowQ_len f h (fun _ => true)
        simp (maxSteps := 4000000) only [go_sem]
        repeat (first | refine walkL_seq ?_ | refine walkL_skip ?_ | refine walkL_block ?_ | (refine walkL_region fun K hK => ?_; simp (maxSteps := 4000000) only [go_sem]; (repeat (first | (refine ⟨_, .lent (hf := h48) (hd := rfl) (hr := rfl), ?_⟩; simp (maxSteps := 4000000) only [go_sem]) | (refine ⟨_, .given (hf := h48) (hd := rfl) (ha := rfl), ?_⟩; simp (maxSteps := 4000000) only [go_sem]))); refine hK _ ?_; clear hK K) | refine walkL_nil ?_ | refine walkL_ret ?_ | refine walkL_exit ?_ | refine blockA_here ?_ | refine blockA_other rfl ?_ | refine blockA_ret ?_ | refine blockA_normal ?_ | refine thenA_ret ?_ | refine thenA_exit ?_ | refine thenA_normal ?_)
        refine walkL_cond rfl (fun hb2 => ?_) (fun hb2 => ?_)
        · have hlt2 : h < H := by simpa using hb2
          have hw2 : IntKind.i64.wrap ((h : Int) + 1) = ((h + 1 : Nat) : Int) := by rw [wr_small (by omega)]; simp
          have c63i := c63 k h hlt hlt2
          have su : intRows (rowQ f h fun _ => true) ++ [[.i (ldAt s.loads k h)]] = intRows (rowQ f (h + 1) fun _ => true) := by
            rw [rowQ_succ', hf]
            simp [intRows]
          obtain ⟨R, hR⟩ : ∃ R, R = rowQ f h fun _ => true := ⟨_, rfl⟩
          rw [← hR] at su hRl ⊢
          have hn : R.length + 1 ≤ 549755813888 := by omega
          repeat (first | refine walkL_seq ?_ | refine walkL_skip ?_ | refine walkL_block ?_ | (refine walkL_region fun K hK => ?_; simp (maxSteps := 4000000) only [go_sem, hn, su, intRows_len, hw2]; (repeat (first | (refine ⟨_, .lent (hf := c63i) (hd := rfl) (hr := rfl), ?_⟩; simp (maxSteps := 4000000) only [go_sem, hn, su, intRows_len, hw2]) | (refine ⟨_, .given (hf := c63i) (hd := rfl) (ha := rfl), ?_⟩; simp (maxSteps := 4000000) only [go_sem, hn, su, intRows_len, hw2]))); refine hK _ ?_; clear hK K) | refine walkL_nil ?_ | refine walkL_ret ?_ | refine walkL_exit ?_ | refine blockA_here ?_ | refine blockA_other rfl ?_ | refine blockA_ret ?_ | refine blockA_normal ?_ | refine thenA_ret ?_ | refine thenA_exit ?_ | refine thenA_normal ?_)
          refine ⟨rfl, h + 1, ?_, hlt2, by omega⟩
          refine weak_of [] ?_ ?_ rfl rfl <;> simp [lessT, lessM, lessB, AV.less]
          all_goals first | done | rfl
        · have he : h = H := by (have : ¬ h < H := by simpa using hb2); omega
          subst he
          have hn : D.length + 1 ≤ 549755813888 := by omega
          obtain ⟨R, hR⟩ : ∃ R, R = rowQ f h fun _ => true := ⟨_, rfl⟩
          rw [← hR] at htk ⊢
          repeat (first | refine walkL_seq ?_ | refine walkL_skip ?_ | refine walkL_block ?_ | (refine walkL_region fun K hK => ?_; simp (maxSteps := 4000000) only [go_sem, hn, listRows_len, hw]; refine hK _ ?_; clear hK K) | refine walkL_nil ?_ | refine walkL_ret ?_ | refine walkL_exit ?_ | refine blockA_here ?_ | refine blockA_other rfl ?_ | refine blockA_ret ?_ | refine blockA_normal ?_ | refine thenA_ret ?_ | refine thenA_exit ?_ | refine thenA_normal ?_)
          refine ⟨rfl, k + 1, ?_, hlt, by omega⟩
          rw [htk, show listRows (D ++ [R]) = listRows D ++ [[.sl (intRows R)]] by simp [listRows]]
          refine weak_of [] ?_ ?_ rfl rfl <;> simp [lessT, lessM, lessB, AV.less]
          all_goals first | done | rfl | exact ⟨rfl, rfl⟩
    · have he : k = s.carr.length := by (have : ¬ k < s.carr.length := by simpa using hb); omega
      subst he
      rw [show s.loads.take s.carr.length = s.loads by rw [← hll, List.take_length]]
      repeat (first | refine walkL_seq ?_ | refine walkL_skip ?_ | refine walkL_block ?_ | (refine walkL_region fun K hK => ?_; simp (maxSteps := 4000000) only [go_sem]; refine hK _ ?_; clear hK K) | refine walkL_nil ?_ | refine walkL_ret ?_ | refine walkL_exit ?_ | refine blockA_here ?_ | refine blockA_other rfl ?_ | refine blockA_ret ?_ | refine blockA_normal ?_ | refine thenA_ret ?_ | refine thenA_exit ?_ | refine thenA_normal ?_)
      simp (maxSteps := 4000000) only [go_sem]
theorem zf25 (s : Supply) (hs : SuppSmall s) : Fn Tryz.prog 25 [.agg s.cells] (.tup [.sl (if suppE s = 0 then listRows s.loads else []), .i (suppE s)]) := by
  have h24 := zf24 s hs
  have h70 := fun h0 => zf70 s h0 hs
  rw [Supply.cells] at h24 h70
  by_cases h0 : suppE s = 0
  · have h70 := h70 h0
    rw [h0] at h24
    rw [if_pos h0, h0]
    refine fn_walk 12 Tryz.call25 Tryz.func25 rfl (by decide) fun J => ?_
    simp (maxSteps := 4000000) only [go_sem, St.start, Tryz.ntmps25, Tryz.results25, Supply.cells]
    repeat (first | refine walkL_true rfl ?_ | refine walkL_false rfl ?_ | refine walkL_seq ?_ | refine walkL_skip ?_ | refine walkL_block ?_ | (refine walkL_region fun K hK => ?_; simp (maxSteps := 4000000) only [go_sem]; (repeat (first | (refine ⟨_, .lent (hf := h24) (hd := rfl) (hr := rfl), ?_⟩; simp (maxSteps := 4000000) only [go_sem]) | (refine ⟨_, .lent (hf := h70) (hd := rfl) (hr := rfl), ?_⟩; simp (maxSteps := 4000000) only [go_sem]) | (refine ⟨_, .given (hf := h24) (hd := rfl) (ha := rfl), ?_⟩; simp (maxSteps := 4000000) only [go_sem]) | (refine ⟨_, .given (hf := h70) (hd := rfl) (ha := rfl), ?_⟩; simp (maxSteps := 4000000) only [go_sem]))); refine hK _ ?_; clear hK K) | refine walkL_nil ?_ | refine walkL_ret ?_ | refine walkL_exit ?_ | refine blockA_here ?_ | refine blockA_other rfl ?_ | refine blockA_ret ?_ | refine blockA_normal ?_ | refine thenA_ret ?_ | refine thenA_exit ?_ | refine thenA_normal ?_)
    simp (maxSteps := 4000000) only [go_sem]
  · rw [if_neg h0]
    have hz : (suppE s != 0) = true := by simpa using h0
    obtain ⟨e, he⟩ : ∃ e, e = suppE s := ⟨_, rfl⟩
    rw [← he] at h24 hz ⊢
    refine fn_walk 12 Tryz.call25 Tryz.func25 rfl (by decide) fun J => ?_
    simp (maxSteps := 4000000) only [go_sem, St.start, Tryz.ntmps25, Tryz.results25, Supply.cells]
    repeat (first | refine walkL_true rfl ?_ | refine walkL_false rfl ?_ | refine walkL_seq ?_ | refine walkL_skip ?_ | refine walkL_block ?_ | (refine walkL_region fun K hK => ?_; simp (maxSteps := 4000000) only [go_sem, hz]; (repeat (first | (refine ⟨_, .lent (hf := h24) (hd := rfl) (hr := rfl), ?_⟩; simp (maxSteps := 4000000) only [go_sem, hz]) | (refine ⟨_, .given (hf := h24) (hd := rfl) (ha := rfl), ?_⟩; simp (maxSteps := 4000000) only [go_sem, hz]))); refine hK _ ?_; clear hK K) | refine walkL_nil ?_ | refine walkL_ret ?_ | refine walkL_exit ?_ | refine blockA_here ?_ | refine blockA_other rfl ?_ | refine blockA_ret ?_ | refine blockA_normal ?_ | refine thenA_ret ?_ | refine thenA_exit ?_ | refine thenA_normal ?_)
    simp (maxSteps := 4000000) only [go_sem]
theorem zf27 (s : Supply) (c n : Int) (hs : SuppSmall s) : Fn Tryz.prog 27 [.agg s.cells, .i c, .i n] (.tup [.i (nextP s c n).1, .bool (nextP s c n).2.1, .i (nextP s c n).2.2]) := by
  have hcl := hs.carr
  have hw1 : IntKind.i64.wrap ((s.carr.length : Int) - 1) = s.carr.length - 1 := wr_small (by omega)
  have k1 := zf62 c 0 ((s.carr.length : Int) - 1)
  have k2 := zf62 n 1 48
  have h24 := zf24 s hs
  rw [Supply.cells] at h24
  unfold nextP openS6 askB
  obtain ⟨a1, ha1⟩ : ∃ b, b = withinB c 0 ((s.carr.length : Int) - 1) := ⟨_, rfl⟩
  obtain ⟨a2, ha2⟩ : ∃ b, b = withinB n 1 48 := ⟨_, rfl⟩
  rw [← ha1] at k1 ⊢
  rw [← ha2] at k2 ⊢
  by_cases h0 : suppE s = 0
  · rw [h0] at h24
    rw [if_pos h0]
    cases a1
    · refine fn_walk 69 Tryz.call27 Tryz.func27 rfl (by decide) fun J => ?_
      simp (maxSteps := 4000000) only [go_sem, St.start, Tryz.ntmps27, Tryz.results27, Supply.cells]
      repeat (first | refine walkL_true rfl ?_ | refine walkL_false rfl ?_ | refine walkL_seq ?_ | refine walkL_skip ?_ | refine walkL_block ?_ | (refine walkL_region fun K hK => ?_; simp (maxSteps := 4000000) only [go_sem, hw1, carrRows_len]; (repeat (first | (refine ⟨_, .lent (hf := h24) (hd := rfl) (hr := rfl), ?_⟩; simp (maxSteps := 4000000) only [go_sem, hw1, carrRows_len]) | (refine ⟨_, .lent (hf := k1) (hd := rfl) (hr := rfl), ?_⟩; simp (maxSteps := 4000000) only [go_sem, hw1, carrRows_len]) | (refine ⟨_, .given (hf := h24) (hd := rfl) (ha := rfl), ?_⟩; simp (maxSteps := 4000000) only [go_sem, hw1, carrRows_len]) | (refine ⟨_, .given (hf := k1) (hd := rfl) (ha := rfl), ?_⟩; simp (maxSteps := 4000000) only [go_sem, hw1, carrRows_len]))); refine hK _ ?_; clear hK K) | refine walkL_nil ?_ | refine walkL_ret ?_ | refine walkL_exit ?_ | refine blockA_here ?_ | refine blockA_other rfl ?_ | refine blockA_ret ?_ | refine blockA_normal ?_ | refine thenA_ret ?_ | refine thenA_exit ?_ | refine thenA_normal ?_)
      simp (maxSteps := 4000000) only [go_sem]
    · cases a2
      · refine fn_walk 69 Tryz.call27 Tryz.func27 rfl (by decide) fun J => ?_
        simp (maxSteps := 4000000) only [go_sem, St.start, Tryz.ntmps27, Tryz.results27, Supply.cells]
        repeat (first | refine walkL_true rfl ?_ | refine walkL_false rfl ?_ | refine walkL_seq ?_ | refine walkL_skip ?_ | refine walkL_block ?_ | (refine walkL_region fun K hK => ?_; simp (maxSteps := 4000000) only [go_sem, hw1, carrRows_len]; (repeat (first | (refine ⟨_, .lent (hf := h24) (hd := rfl) (hr := rfl), ?_⟩; simp (maxSteps := 4000000) only [go_sem, hw1, carrRows_len]) | (refine ⟨_, .lent (hf := k1) (hd := rfl) (hr := rfl), ?_⟩; simp (maxSteps := 4000000) only [go_sem, hw1, carrRows_len]) | (refine ⟨_, .lent (hf := k2) (hd := rfl) (hr := rfl), ?_⟩; simp (maxSteps := 4000000) only [go_sem, hw1, carrRows_len]) | (refine ⟨_, .given (hf := h24) (hd := rfl) (ha := rfl), ?_⟩; simp (maxSteps := 4000000) only [go_sem, hw1, carrRows_len]) | (refine ⟨_, .given (hf := k1) (hd := rfl) (ha := rfl), ?_⟩; simp (maxSteps := 4000000) only [go_sem, hw1, carrRows_len]) | (refine ⟨_, .given (hf := k2) (hd := rfl) (ha := rfl), ?_⟩; simp (maxSteps := 4000000) only [go_sem, hw1, carrRows_len]))); refine hK _ ?_; clear hK K) | refine walkL_nil ?_ | refine walkL_ret ?_ | refine walkL_exit ?_ | refine blockA_here ?_ | refine blockA_other rfl ?_ | refine blockA_ret ?_ | refine blockA_normal ?_ | refine thenA_ret ?_ | refine thenA_exit ?_ | refine thenA_normal ?_)
        simp (maxSteps := 4000000) only [go_sem]
      · have hr := within_iff.1 ha1.symm
        obtain ⟨x, hx⟩ : ∃ x, s.carr[c.toNat]? = some x := ⟨_, List.getElem?_eq_getElem (by omega)⟩
        have gx := carrRows_at hx
        rw [Carrier.row] at gx
        have h12 := zf72 s.scen s.seen x.lim n hs.fore hs.seen
        have hW : nextW s c n = windowF s.scen s.seen x.lim n := by rw [nextW, List.getD, hx]; rfl
        rw [← hW] at h12
        unfold nextE
        obtain ⟨W, hWW⟩ : ∃ W, W = nextW s c n := ⟨_, rfl⟩
        rw [← hWW] at h12 ⊢
        obtain ⟨w1, w2, w3⟩ := W
        dsimp only at h12 ⊢
        rw [Limits.row] at h12
        have hc0 : ¬ c < 0 := by omega
        simp only [Bool.and_self, if_true]
        refine fn_walk 69 Tryz.call27 Tryz.func27 rfl (by decide) fun J => ?_
        simp (maxSteps := 4000000) only [go_sem, St.start, Tryz.ntmps27, Tryz.results27, Supply.cells]
        repeat (first | refine walkL_true rfl ?_ | refine walkL_false rfl ?_ | refine walkL_seq ?_ | refine walkL_skip ?_ | refine walkL_block ?_ | (refine walkL_region fun K hK => ?_; simp (maxSteps := 4000000) only [go_sem, hw1, carrRows_len]; (repeat (first | (refine ⟨_, .lent (hf := h24) (hd := rfl) (hr := rfl), ?_⟩; simp (maxSteps := 4000000) only [go_sem, hw1, carrRows_len]) | (refine ⟨_, .lent (hf := k1) (hd := rfl) (hr := rfl), ?_⟩; simp (maxSteps := 4000000) only [go_sem, hw1, carrRows_len]) | (refine ⟨_, .lent (hf := k2) (hd := rfl) (hr := rfl), ?_⟩; simp (maxSteps := 4000000) only [go_sem, hw1, carrRows_len]) | (refine ⟨_, .given (hf := h24) (hd := rfl) (ha := rfl), ?_⟩; simp (maxSteps := 4000000) only [go_sem, hw1, carrRows_len]) | (refine ⟨_, .given (hf := k1) (hd := rfl) (ha := rfl), ?_⟩; simp (maxSteps := 4000000) only [go_sem, hw1, carrRows_len]) | (refine ⟨_, .given (hf := k2) (hd := rfl) (ha := rfl), ?_⟩; simp (maxSteps := 4000000) only [go_sem, hw1, carrRows_len]))); refine hK _ ?_; clear hK K) | refine walkL_nil ?_ | refine walkL_ret ?_ | refine walkL_exit ?_ | refine blockA_here ?_ | refine blockA_other rfl ?_ | refine blockA_ret ?_ | refine blockA_normal ?_ | refine thenA_ret ?_ | refine thenA_exit ?_ | refine thenA_normal ?_)
        refine walkL_drawn (by kernel_rfl) (by kernel_rfl) fun K hK => ?_
        simp (maxSteps := 4000000) only [go_sem, gx, hr.1]
        refine ⟨_, .fn (hf := h12) (hd := rfl) (hr := .inl rfl), ?_⟩
        simp (maxSteps := 4000000) only [go_sem]
        refine ⟨by kernel_rfl, hK _ ?_⟩
        clear hK K
        by_cases c1 : w3 = 0
        · have q2 : (w3 != 0) = false := by simp [c1]
          by_cases c2 : w2 < 0
          · have q3 : decide (w2 < 0) = true := decide_eq_true c2
            rw [if_pos (show w3 = 0 ∧ w2 < 0 from ⟨c1, c2⟩), if_neg (by decide)]
            repeat (first | refine walkL_true rfl ?_ | refine walkL_false rfl ?_ | refine walkL_seq ?_ | refine walkL_skip ?_ | refine walkL_block ?_ | (refine walkL_region fun K hK => ?_; simp (maxSteps := 4000000) only [go_sem, q2, q3]; refine hK _ ?_; clear hK K) | refine walkL_nil ?_ | refine walkL_ret ?_ | refine walkL_exit ?_ | refine blockA_here ?_ | refine blockA_other rfl ?_ | refine blockA_ret ?_ | refine blockA_normal ?_ | refine thenA_ret ?_ | refine thenA_exit ?_ | refine thenA_normal ?_)
            simp (maxSteps := 4000000) only [go_sem]
          · have q3 : decide (w2 < 0) = false := decide_eq_false c2
            rw [if_neg (show ¬ (w3 = 0 ∧ w2 < 0) from fun h => c2 h.2), if_pos c1]
            dsimp only
            repeat (first | refine walkL_true rfl ?_ | refine walkL_false rfl ?_ | refine walkL_seq ?_ | refine walkL_skip ?_ | refine walkL_block ?_ | (refine walkL_region fun K hK => ?_; simp (maxSteps := 4000000) only [go_sem, q2, q3]; refine hK _ ?_; clear hK K) | refine walkL_nil ?_ | refine walkL_ret ?_ | refine walkL_exit ?_ | refine blockA_here ?_ | refine blockA_other rfl ?_ | refine blockA_ret ?_ | refine blockA_normal ?_ | refine thenA_ret ?_ | refine thenA_exit ?_ | refine thenA_normal ?_)
            cases q4 : (w2 == 0)
            · refine walkL_drawn (by kernel_rfl) (by kernel_rfl) fun K hK => ?_
              simp (maxSteps := 4000000) only [go_sem, q4]
              refine ⟨by kernel_rfl, hK _ ?_⟩
              clear hK K
              repeat (first | refine walkL_true rfl ?_ | refine walkL_false rfl ?_ | refine walkL_seq ?_ | refine walkL_skip ?_ | refine walkL_block ?_ | (refine walkL_region fun K hK => ?_; simp (maxSteps := 4000000) only [go_sem]; refine hK _ ?_; clear hK K) | refine walkL_nil ?_ | refine walkL_ret ?_ | refine walkL_exit ?_ | refine blockA_here ?_ | refine blockA_other rfl ?_ | refine blockA_ret ?_ | refine blockA_normal ?_ | refine thenA_ret ?_ | refine thenA_exit ?_ | refine thenA_normal ?_)
              simp (maxSteps := 4000000) only [go_sem]
            · refine walkL_drawn (by kernel_rfl) (by kernel_rfl) fun K hK => ?_
              simp (maxSteps := 4000000) only [go_sem, q4]
              refine ⟨by kernel_rfl, hK _ ?_⟩
              clear hK K
              repeat (first | refine walkL_true rfl ?_ | refine walkL_false rfl ?_ | refine walkL_seq ?_ | refine walkL_skip ?_ | refine walkL_block ?_ | (refine walkL_region fun K hK => ?_; simp (maxSteps := 4000000) only [go_sem]; refine hK _ ?_; clear hK K) | refine walkL_nil ?_ | refine walkL_ret ?_ | refine walkL_exit ?_ | refine blockA_here ?_ | refine blockA_other rfl ?_ | refine blockA_ret ?_ | refine blockA_normal ?_ | refine thenA_ret ?_ | refine thenA_exit ?_ | refine thenA_normal ?_)
              simp (maxSteps := 4000000) only [go_sem]
        · have q2 : (w3 != 0) = true := by simpa using c1
          rw [if_neg (show ¬ (w3 = 0 ∧ w2 < 0) from fun h => c1 h.1), if_neg c1]
          repeat (first | refine walkL_true rfl ?_ | refine walkL_false rfl ?_ | refine walkL_seq ?_ | refine walkL_skip ?_ | refine walkL_block ?_ | (refine walkL_region fun K hK => ?_; simp (maxSteps := 4000000) only [go_sem, q2]; refine hK _ ?_; clear hK K) | refine walkL_nil ?_ | refine walkL_ret ?_ | refine walkL_exit ?_ | refine blockA_here ?_ | refine blockA_other rfl ?_ | refine blockA_ret ?_ | refine blockA_normal ?_ | refine thenA_ret ?_ | refine thenA_exit ?_ | refine thenA_normal ?_)
          simp (maxSteps := 4000000) only [go_sem]
  · rw [if_neg h0]
    have hz : (suppE s != 0) = true := by simpa using h0
    have hz2 : ¬ suppE s = 0 := h0
    rw [if_neg h0]
    obtain ⟨e, he⟩ : ∃ e, e = suppE s := ⟨_, rfl⟩
    rw [← he] at h24 hz ⊢
    refine fn_walk 69 Tryz.call27 Tryz.func27 rfl (by decide) fun J => ?_
    simp (maxSteps := 4000000) only [go_sem, St.start, Tryz.ntmps27, Tryz.results27, Supply.cells]
    repeat (first | refine walkL_true rfl ?_ | refine walkL_false rfl ?_ | refine walkL_seq ?_ | refine walkL_skip ?_ | refine walkL_block ?_ | (refine walkL_region fun K hK => ?_; simp (maxSteps := 4000000) only [go_sem, hz]; (repeat (first | (refine ⟨_, .lent (hf := h24) (hd := rfl) (hr := rfl), ?_⟩; simp (maxSteps := 4000000) only [go_sem, hz]) | (refine ⟨_, .given (hf := h24) (hd := rfl) (ha := rfl), ?_⟩; simp (maxSteps := 4000000) only [go_sem, hz]))); refine hK _ ?_; clear hK K) | refine walkL_nil ?_ | refine walkL_ret ?_ | refine walkL_exit ?_ | refine blockA_here ?_ | refine blockA_other rfl ?_ | refine blockA_ret ?_ | refine blockA_normal ?_ | refine thenA_ret ?_ | refine thenA_exit ?_ | refine thenA_normal ?_)
    simp (maxSteps := 4000000) only [go_sem]
theorem zf5 (s : Supply) (c n : Int) (hs : SuppSmall s) : Fn Tryz.prog 5 [.agg s.cells, .i c, .i n] (.bool true) := by
  have h11 := zf11 s hs
  have h12 := zf12
  have h13 := zf13m s hs
  have h23 := zf23 s hs
  have h24 := zf24 s hs
  have h22 := zf22 s hs
  have h25 := zf25 s hs
  have h26 := zf26 s c n hs
  have h27 := zf27 s c n hs
  have hcl := hs.carr
  have hlen : ∀ r ∈ s.loads, r.length < 2 ^ 30 := fun r hr => by
    obtain ⟨k, _, rfl⟩ := List.mem_map.1 hr
    rw [show (loadRow s.scens s.hours k).length = s.hours from rowQ_len _ _ _]
    unfold Supply.hours hd0
    cases hsc : s.scen with
    | nil => decide
    | cons a l => exact hs.fore.hours a (by rw [hsc]; exact List.mem_cons_self)
  obtain ⟨L, hL⟩ : ∃ L, L = if suppE s = 0 then s.loads else [] := ⟨_, rfl⟩
  have hL2 : (if suppE s = 0 then listRows s.loads else []) = listRows L := by
    rw [hL]
    split <;> rfl
  rw [hL2] at h22 h25
  have hLl : L.length < 2 ^ 30 := by
    rw [hL]
    split
    · simp only [Supply.loads, List.length_map]; exact hcl
    · decide
  have hLr : ∀ r ∈ L, r.length < 2 ^ 30 := fun r hr => by
    rw [hL] at hr
    split at hr
    · exact hlen r hr
    · cases hr
  have h16 := fun (r : List Int) (hr : r ∈ L) => zf16 r r (hLr r hr)
  obtain ⟨e, he⟩ : ∃ e, e = suppE s := ⟨_, rfl⟩
  rw [← he] at h22 h23 h24 h25
  obtain ⟨a1, a2, a3, ha⟩ : ∃ a1 a2 a3, nextP s c n = (a1, a2, a3) := ⟨_, _, _, rfl⟩
  rw [ha] at h26 h27
  dsimp only at h26 h27
  have hne : (e != e) = false := by simp
  have hne2 : ((L.length : Int) != (L.length : Int)) = false := by simp
  rw [Supply.cells] at h11 h13 h22 h23 h24 h25 h26 h27
  cases hf : far6 s
  · rw [hf] at h11
    refine fn_walk 97 Tryz.call5 Tryz.func5 rfl (by decide) fun J => ?_
    simp (maxSteps := 4000000) only [go_sem, St.start, Tryz.ntmps5, Tryz.results5, Supply.cells]
    repeat (first | refine walkL_true rfl ?_ | refine walkL_false rfl ?_ | refine walkL_seq ?_ | refine walkL_skip ?_ | refine walkL_block ?_ | (refine walkL_region fun K hK => ?_; simp (maxSteps := 4000000) only [go_sem]; (repeat (first | (refine ⟨_, .lent (hf := h11) (hd := rfl) (hr := rfl), ?_⟩; simp (maxSteps := 4000000) only [go_sem]) | (refine ⟨_, .given (hf := h11) (hd := rfl) (ha := rfl), ?_⟩; simp (maxSteps := 4000000) only [go_sem]))); refine hK _ ?_; clear hK K) | refine walkL_nil ?_ | refine walkL_ret ?_ | refine walkL_exit ?_ | refine blockA_here ?_ | refine blockA_other rfl ?_ | refine blockA_ret ?_ | refine blockA_normal ?_ | refine thenA_ret ?_ | refine thenA_exit ?_ | refine thenA_normal ?_)
    refine walkL_region fun K hK => ?_
    simp (maxSteps := 4000000) only [go_sem]
    refine ⟨_, .made (news := [13, 14]) (hf := h13) (hd := rfl) (hn := by decide) (hl := rfl) (hnew := rfl) (hx := rfl), ?_⟩
    simp (maxSteps := 4000000) only [go_sem, List.map_cons, List.map_nil]
    refine hK _ ?_
    clear hK K
    repeat (first | refine walkL_seq ?_ | refine walkL_skip ?_ | refine walkL_block ?_ | (refine walkL_region fun K hK => ?_; simp (maxSteps := 4000000) only [go_sem]; refine hK _ ?_; clear hK K) | refine walkL_nil ?_ | refine walkL_ret ?_ | refine walkL_exit ?_ | refine blockA_here ?_ | refine blockA_other rfl ?_ | refine blockA_ret ?_ | refine blockA_normal ?_ | refine thenA_ret ?_ | refine thenA_exit ?_ | refine thenA_normal ?_)
    refine walkL_release [13, 14] ?_
    simp (maxSteps := 4000000) only [go_sem]
    refine walkL_drawn (by kernel_rfl) (by kernel_rfl) fun K hK => ?_
    simp (maxSteps := 4000000) only [go_sem]
    refine ⟨_, .fn (hf := h23) (hd := rfl) (hr := .inl rfl), ?_⟩
    simp (maxSteps := 4000000) only [go_sem]
    refine ⟨_, .fn (hf := h24) (hd := rfl) (hr := .inl rfl), ?_⟩
    simp (maxSteps := 4000000) only [go_sem, hne]
    refine ⟨by kernel_rfl, hK _ ?_⟩
    clear hK K
    repeat (first | refine walkL_true rfl ?_ | refine walkL_false rfl ?_ | refine walkL_seq ?_ | refine walkL_skip ?_ | refine walkL_block ?_ | (refine walkL_region fun K hK => ?_; simp (maxSteps := 4000000) only [go_sem, hne, hne2, listRows_len]; (repeat (first | (refine ⟨_, .lent (hf := h22) (hd := rfl) (hr := rfl), ?_⟩; simp (maxSteps := 4000000) only [go_sem, hne, hne2, listRows_len]) | (refine ⟨_, .lent (hf := h25) (hd := rfl) (hr := rfl), ?_⟩; simp (maxSteps := 4000000) only [go_sem, hne, hne2, listRows_len]) | (refine ⟨_, .given (hf := h22) (hd := rfl) (ha := rfl), ?_⟩; simp (maxSteps := 4000000) only [go_sem, hne, hne2, listRows_len]) | (refine ⟨_, .given (hf := h25) (hd := rfl) (ha := rfl), ?_⟩; simp (maxSteps := 4000000) only [go_sem, hne, hne2, listRows_len]))); refine hK _ ?_; clear hK K) | refine walkL_nil ?_ | refine walkL_ret ?_ | refine walkL_exit ?_ | refine blockA_here ?_ | refine blockA_other rfl ?_ | refine blockA_ret ?_ | refine blockA_normal ?_ | refine thenA_ret ?_ | refine thenA_exit ?_ | refine thenA_normal ?_)
    refine walkL_loopS (fun (i : Nat) => [(12, .d (.i (i : Int)))]) (fun _ => []) (fun i => i ≤ L.length) (fun i => L.length - i) 0 ?_ (Nat.zero_le _) ?_
    · simp (maxSteps := 4000000) only [go_sem]
      refine weak_of [] ?_ ?_ rfl rfl <;> simp [lessT, lessM, lessB, AV.less]
    · intro i hi
      simp (maxSteps := 4000000) only [go_sem]
      repeat (first | refine walkL_seq ?_ | refine walkL_skip ?_ | refine walkL_block ?_ | (refine walkL_region fun K hK => ?_; simp (maxSteps := 4000000) only [go_sem, listRows_len]; refine hK _ ?_; clear hK K) | refine walkL_nil ?_ | refine walkL_ret ?_ | refine walkL_exit ?_ | refine blockA_here ?_ | refine blockA_other rfl ?_ | refine blockA_ret ?_ | refine blockA_normal ?_ | refine thenA_ret ?_ | refine thenA_exit ?_ | refine thenA_normal ?_)
      refine walkL_cond rfl (fun hb => ?_) (fun hb => ?_)
      · have hlt : i < L.length := by simpa using hb
        have hw : IntKind.i64.wrap ((i : Int) + 1) = ((i + 1 : Nat) : Int) := by rw [wr_small (by omega)]; simp
        obtain ⟨r, hr⟩ : ∃ r, L[i]? = some r := ⟨_, List.getElem?_eq_getElem hlt⟩
        have g1 := listRows_at hr
        have h16r := h16 r (List.mem_of_getElem? hr)
        rw [decide_eq_true (rfl : r = r)] at h16r
        have hni : ¬ ((i : Int) < 0) := by omega
        repeat (first | refine walkL_seq ?_ | refine walkL_skip ?_ | refine walkL_block ?_ | (refine walkL_region fun K hK => ?_; simp (maxSteps := 4000000) only [go_sem]; refine hK _ ?_; clear hK K) | refine walkL_nil ?_ | refine walkL_ret ?_ | refine walkL_exit ?_ | refine blockA_here ?_ | refine blockA_other rfl ?_ | refine blockA_ret ?_ | refine blockA_normal ?_ | refine thenA_ret ?_ | refine thenA_exit ?_ | refine thenA_normal ?_)
        refine walkL_drawn (by kernel_rfl) (by kernel_rfl) fun K hK => ?_
        simp (maxSteps := 4000000) only [go_sem, g1, hni]
        refine ⟨_, .fn (hf := h16r) (hd := rfl) (hr := .inl rfl), ?_⟩
        simp (maxSteps := 4000000) only [go_sem]
        refine ⟨by kernel_rfl, hK _ ?_⟩
        clear hK K
        repeat (first | refine walkL_true rfl ?_ | refine walkL_false rfl ?_ | refine walkL_seq ?_ | refine walkL_skip ?_ | refine walkL_block ?_ | (refine walkL_region fun K hK => ?_; simp (maxSteps := 4000000) only [go_sem, hw]; refine hK _ ?_; clear hK K) | refine walkL_nil ?_ | refine walkL_ret ?_ | refine walkL_exit ?_ | refine blockA_here ?_ | refine blockA_other rfl ?_ | refine blockA_ret ?_ | refine blockA_normal ?_ | refine thenA_ret ?_ | refine thenA_exit ?_ | refine thenA_normal ?_)
        refine ⟨rfl, i + 1, ?_, hlt, by omega⟩
        refine weak_of [] ?_ ?_ rfl rfl <;> simp [lessT, lessM, lessB, AV.less]
      · repeat (first | refine walkL_true rfl ?_ | refine walkL_false rfl ?_ | refine walkL_seq ?_ | refine walkL_skip ?_ | refine walkL_block ?_ | (refine walkL_region fun K hK => ?_; simp (maxSteps := 4000000) only [go_sem, beq_self_eq_true]; (repeat (first | (refine ⟨_, .lent (hf := h26) (hd := rfl) (hr := rfl), ?_⟩; simp (maxSteps := 4000000) only [go_sem, beq_self_eq_true]) | (refine ⟨_, .lent (hf := h27) (hd := rfl) (hr := rfl), ?_⟩; simp (maxSteps := 4000000) only [go_sem, beq_self_eq_true]) | (refine ⟨_, .lent (hf := h12) (hd := rfl) (hr := rfl), ?_⟩; simp (maxSteps := 4000000) only [go_sem, beq_self_eq_true]) | (refine ⟨_, .given (hf := h26) (hd := rfl) (ha := rfl), ?_⟩; simp (maxSteps := 4000000) only [go_sem, beq_self_eq_true]) | (refine ⟨_, .given (hf := h27) (hd := rfl) (ha := rfl), ?_⟩; simp (maxSteps := 4000000) only [go_sem, beq_self_eq_true]) | (refine ⟨_, .given (hf := h12) (hd := rfl) (ha := rfl), ?_⟩; simp (maxSteps := 4000000) only [go_sem, beq_self_eq_true]))); refine hK _ ?_; clear hK K) | refine walkL_nil ?_ | refine walkL_ret ?_ | refine walkL_exit ?_ | refine blockA_here ?_ | refine blockA_other rfl ?_ | refine blockA_ret ?_ | refine blockA_normal ?_ | refine thenA_ret ?_ | refine thenA_exit ?_ | refine thenA_normal ?_)
        simp (maxSteps := 4000000) only [go_sem]
  · rw [hf] at h11
    refine fn_walk 97 Tryz.call5 Tryz.func5 rfl (by decide) fun J => ?_
    simp (maxSteps := 4000000) only [go_sem, St.start, Tryz.ntmps5, Tryz.results5, Supply.cells]
    repeat (first | refine walkL_true rfl ?_ | refine walkL_false rfl ?_ | refine walkL_seq ?_ | refine walkL_skip ?_ | refine walkL_block ?_ | (refine walkL_region fun K hK => ?_; simp (maxSteps := 4000000) only [go_sem]; (repeat (first | (refine ⟨_, .lent (hf := h11) (hd := rfl) (hr := rfl), ?_⟩; simp (maxSteps := 4000000) only [go_sem]) | (refine ⟨_, .lent (hf := h12) (hd := rfl) (hr := rfl), ?_⟩; simp (maxSteps := 4000000) only [go_sem]) | (refine ⟨_, .given (hf := h11) (hd := rfl) (ha := rfl), ?_⟩; simp (maxSteps := 4000000) only [go_sem]) | (refine ⟨_, .given (hf := h12) (hd := rfl) (ha := rfl), ?_⟩; simp (maxSteps := 4000000) only [go_sem]))); refine hK _ ?_; clear hK K) | refine walkL_nil ?_ | refine walkL_ret ?_ | refine walkL_exit ?_ | refine blockA_here ?_ | refine blockA_other rfl ?_ | refine blockA_ret ?_ | refine blockA_normal ?_ | refine thenA_ret ?_ | refine thenA_exit ?_ | refine thenA_normal ?_)
    simp (maxSteps := 4000000) only [go_sem]
end Go.Ab
