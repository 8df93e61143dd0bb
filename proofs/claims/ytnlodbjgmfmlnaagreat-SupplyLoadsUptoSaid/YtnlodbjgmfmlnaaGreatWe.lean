/- A walk engine over abstract states, and the contracts of the functions that the statement reaches: part 5. -/
import Derived.Test.YtnlodbjgmfmlnaaGreatWd
set_option linter.unusedVariables false
set_option linter.unusedSimpArgs false
set_option linter.unnecessarySimpa false
namespace Go.Ab
open Go.RowKit Go.Proofs
set_option maxHeartbeats 16000000
set_option maxRecDepth 20000
attribute [local irreducible] WalkL Walk
theorem zf22 (s : Supply) (hs : SuppSmall s) : Fn Tryz.prog 22 [.agg s.cells] (.tup [.sl (if suppE s = 0 then listRows s.loads else []), .i (suppE s)]) := by
  have h25 := zf25n s true hs
  have he : openS6 s true = suppE s := by
    unfold openS6
    by_cases h : suppE s = 0
    · rw [if_pos h, if_pos rfl, h]
    · rw [if_neg h]
  rw [he] at h25
  obtain ⟨e, hee⟩ : ∃ e, e = suppE s := ⟨_, rfl⟩
  rw [← hee] at h25 ⊢
  rw [Supply.cells] at h25
  refine fn_walk 18 Tryz.call22 Tryz.func22 rfl (by decide) fun J => ?_
  simp (maxSteps := 4000000) only [go_sem, St.start, Tryz.ntmps22, Tryz.results22, Supply.cells]
  by_cases h0 : e = 0
  · rw [if_pos h0, hutOf, hutRow] at h25
    rw [if_pos h0]
    have hz : (e != 0) = false := by simp [h0]
    repeat (first | refine walkL_true rfl ?_ | refine walkL_false rfl ?_ | refine walkL_seq ?_ | refine walkL_skip ?_ | refine walkL_block ?_ | (refine walkL_region fun K hK => ?_; simp (maxSteps := 4000000) only [go_sem, hz]; (repeat (first | (refine ⟨_, .lent (hf := h25) (hd := rfl) (hr := rfl), ?_⟩; simp (maxSteps := 4000000) only [go_sem, hz]) | (refine ⟨_, .given (hf := h25) (hd := rfl) (ha := rfl), ?_⟩; simp (maxSteps := 4000000) only [go_sem, hz]))); refine hK _ ?_; clear hK K) | refine walkL_nil ?_ | refine walkL_ret ?_ | refine walkL_exit ?_ | refine blockA_here ?_ | refine blockA_other rfl ?_ | refine blockA_ret ?_ | refine blockA_normal ?_ | refine thenA_ret ?_ | refine thenA_exit ?_ | refine thenA_normal ?_)
    simp (maxSteps := 4000000) only [go_sem, h0]
  · rw [if_neg h0] at h25
    rw [if_neg h0]
    have hz : (e != 0) = true := by simp [h0]
    repeat (first | refine walkL_true rfl ?_ | refine walkL_false rfl ?_ | refine walkL_seq ?_ | refine walkL_skip ?_ | refine walkL_block ?_ | (refine walkL_region fun K hK => ?_; simp (maxSteps := 4000000) only [go_sem, hz]; (repeat (first | (refine ⟨_, .lent (hf := h25) (hd := rfl) (hr := rfl), ?_⟩; simp (maxSteps := 4000000) only [go_sem, hz]) | (refine ⟨_, .given (hf := h25) (hd := rfl) (ha := rfl), ?_⟩; simp (maxSteps := 4000000) only [go_sem, hz]))); refine hK _ ?_; clear hK K) | refine walkL_nil ?_ | refine walkL_ret ?_ | refine walkL_exit ?_ | refine blockA_here ?_ | refine blockA_other rfl ?_ | refine blockA_ret ?_ | refine blockA_normal ?_ | refine thenA_ret ?_ | refine thenA_exit ?_ | refine thenA_normal ?_)
    simp (maxSteps := 4000000) only [go_sem]
structure Flight where
  set : Int
  load : Int
  cost : Int
def Flight.row (f : Flight) : List DV := [.i f.set, .i f.load, .i f.cost]
def flRows (l : List Flight) : List (List DV) := l.map Flight.row
theorem flRows_len (l : List Flight) : (flRows l).length = l.length := by simp [flRows]
theorem flRows_at {l : List Flight} {i : Nat} {x : Flight} (h : l[i]? = some x) : (flRows l)[i]? = some x.row := by simp [flRows, h]
theorem flRows_head (l : List Flight) : headIs 3 (flRows l) = true := by cases l <;> rfl
theorem flRows_push (l : List Flight) (x : Flight) : flRows (l ++ [x]) = flRows l ++ [[.i x.set, .i x.load, .i x.cost]] := by simp [flRows, Flight.row]
def addF (i : Nat) (l cost : Int) (f : Flight) : Flight := ⟨bOr .i64 f.set (bShl .i64 1 (i : Int)), wr (f.load + l), wr (f.cost + cost)⟩
def stepFl (i : Nat) (l cost : Int) (out : List Flight) : List Flight := if l = 0 then out else out ++ out.map (addF i l cost)
def noCarrier : Carrier := ⟨0, 0, 0, ⟨0, 0, ⟨0, 0⟩⟩⟩
def flightsTo (cs : List Carrier) (L : List (List Int)) (h : Nat) : Nat → List Flight
  | 0 => [⟨0, 0, 0⟩]
  | i + 1 => stepFl i (getI (L.getD i []) (h : Int)) (cs.getD i noCarrier).cost (flightsTo cs L h i)
theorem flightsTo_len (cs : List Carrier) (L : List (List Int)) (h : Nat) : ∀ i, 0 < (flightsTo cs L h i).length ∧ (flightsTo cs L h i).length ≤ 2 ^ i
  | 0 => by simp [flightsTo]
  | i + 1 => by
    have ih := flightsTo_len cs L h i
    rw [flightsTo, stepFl, Nat.pow_succ]
    split
    · omega
    · rw [List.length_append, List.length_map]; omega
def fl5 : Nat → AV
  | 0 => .own 11
  | _ => .own 65
def fl32 (N : Nat) (R : List (List DV)) : Nat → AV
  | 0 => .view 11 0 N
  | 1 => .d (.sl R)
  | _ => .view 65 0 N
def flM (b : Blk) : Nat → Option Blk
  | 0 => some b
  | _ => none
def flM' (b : Blk) : Nat → Option Blk
  | 0 => none
  | _ => some b
theorem zf196 (s : Supply) (L : List (List Int)) (H h : Nat) (hL : L.length ≤ 20) (hc : s.carr.length = L.length) (hr : ∀ r ∈ L, r.length = H) (hh : h < H) :
    Fn Tryz.prog 196 [.ptr (hutRow s L H) 0, .i (h : Int)] (.sl (flRows (flightsTo s.carr L h L.length))) := by
  refine fn_walk 69 Tryz.call196 Tryz.func196 rfl (by decide) fun J => ?_
  simp (maxSteps := 4000000) only [go_sem, St.start, Tryz.ntmps196, Tryz.results196, hutRow]
  repeat (first | refine walkL_seq ?_ | refine walkL_skip ?_ | refine walkL_block ?_ | (refine walkL_region fun K hK => ?_; simp (maxSteps := 4000000) only [go_sem]; refine hK _ ?_; clear hK K) | refine walkL_nil ?_ | refine walkL_ret ?_ | refine walkL_exit ?_ | refine blockA_here ?_ | refine blockA_other rfl ?_ | refine blockA_ret ?_ | refine blockA_normal ?_ | refine thenA_ret ?_ | refine thenA_exit ?_ | refine thenA_normal ?_)
  refine walkL_loopS (fun (a : Nat × Nat) => [(17, .d (.i (a.2 : Int))), (5, fl5 a.1), (11, .undef)]) (fun a => [(11, flM (.arr 139 3 (flRows (flightsTo s.carr L h a.2))) a.1), (65, flM' (.arr 139 3 (flRows (flightsTo s.carr L h a.2))) a.1)]) (fun a => a.2 ≤ L.length) (fun a => L.length - a.2) (0, 0) ?_ (Nat.zero_le _) ?_
  · simp (maxSteps := 4000000) only [go_sem, fl5, flM, flM', flightsTo, flRows, Flight.row]
    refine weak_of [] ?_ ?_ rfl rfl <;> simp [lessT, lessM, lessB, AV.less]
    all_goals first | done | rfl | trace_state
  · rintro ⟨cf0, i⟩ hi
    dsimp only at hi ⊢
    have hlen := flightsTo_len s.carr L h i
    have hp : (2 : Nat) ^ i ≤ 2 ^ 20 := Nat.pow_le_pow_right (by decide) (by omega)
    have h20 : (2 : Nat) ^ 20 = 1048576 := by decide
    obtain ⟨out, hout⟩ : ∃ out, out = flightsTo s.carr L h i := ⟨_, rfl⟩
    rw [← hout] at hlen ⊢
    rcases cf0 with _ | cf0
    · simp (maxSteps := 4000000) only [go_sem, fl5, flM, flM']
      repeat (first | refine walkL_seq ?_ | refine walkL_skip ?_ | refine walkL_block ?_ | (refine walkL_region fun K hK => ?_; simp (maxSteps := 4000000) only [go_sem]; refine hK _ ?_; clear hK K) | refine walkL_nil ?_ | refine walkL_ret ?_ | refine walkL_exit ?_ | refine blockA_here ?_ | refine blockA_other rfl ?_ | refine blockA_ret ?_ | refine blockA_normal ?_ | refine thenA_ret ?_ | refine thenA_exit ?_ | refine thenA_normal ?_)
      refine walkL_cond rfl (fun hb => ?_) (fun hb => ?_)
      · have hlt : i < L.length := by simpa using hb
        have hw : IntKind.i64.wrap ((i : Int) + 1) = ((i + 1 : Nat) : Int) := by rw [wr_small (by omega)]; simp
        obtain ⟨r, hr0⟩ : ∃ r, L[i]? = some r := ⟨_, List.getElem?_eq_getElem hlt⟩
        have gr := listRows_at hr0
        have hrl : r.length = H := hr r (List.mem_of_getElem? hr0)
        have gv := intRows_get (l := r) (i := (h : Int)) (by omega) (by simp; omega)
        have hni : ¬ ((i : Int) < 0) := by omega
        obtain ⟨c, hc0⟩ : ∃ c, s.carr[i]? = some c := ⟨_, List.getElem?_eq_getElem (by omega)⟩
        have gc := carrRows_at hc0
        rw [Carrier.row] at gc
        have hL0 : L.getD i [] = r := by rw [List.getD, hr0]; rfl
        have hC0 : s.carr.getD i noCarrier = c := by rw [List.getD, hc0]; rfl
        obtain ⟨v, hv⟩ : ∃ v, v = getI r (h : Int) := ⟨_, rfl⟩
        rw [← hv, intVal] at gv
        have hnext : flightsTo s.carr L h (i + 1) = stepFl i v c.cost out := by rw [flightsTo, hL0, hC0, ← hv, ← hout]
        by_cases hv0 : v = 0
        · have hq : (v == 0) = true := by simp [hv0]
          rw [stepFl, if_pos hv0] at hnext
          repeat (first | refine walkL_seq ?_ | refine walkL_skip ?_ | refine walkL_block ?_ | (refine walkL_region fun K hK => ?_; simp (maxSteps := 4000000) only [go_sem, gr, gv, hw]; refine hK _ ?_; clear hK K) | refine walkL_nil ?_ | refine walkL_ret ?_ | refine walkL_exit ?_ | refine blockA_here ?_ | refine blockA_other rfl ?_ | refine blockA_ret ?_ | refine blockA_normal ?_ | refine thenA_ret ?_ | refine thenA_exit ?_ | refine thenA_normal ?_)
          simp (maxSteps := 4000000) only [go_sem, hq]
          repeat (first | refine walkL_true rfl ?_ | refine walkL_false rfl ?_ | refine walkL_seq ?_ | refine walkL_skip ?_ | refine walkL_block ?_ | (refine walkL_region fun K hK => ?_; simp (maxSteps := 4000000) only [go_sem, hw]; refine hK _ ?_; clear hK K) | refine walkL_nil ?_ | refine walkL_ret ?_ | refine walkL_exit ?_ | refine blockA_here ?_ | refine blockA_other rfl ?_ | refine blockA_ret ?_ | refine blockA_normal ?_ | refine thenA_ret ?_ | refine thenA_exit ?_ | refine thenA_normal ?_)
          refine ⟨rfl, (0, i + 1), ?_, hlt, by dsimp only; omega⟩
          rw [hnext]
          simp (maxSteps := 4000000) only [go_sem, fl5, flM, flM']
          refine weak_of [] ?_ ?_ rfl rfl <;> simp [lessT, lessM, lessB, AV.less]
          all_goals first | done | rfl | trace_state
        · have hq : (v == 0) = false := by simpa using hv0
          rw [stepFl, if_neg hv0] at hnext
          repeat (first | refine walkL_seq ?_ | refine walkL_skip ?_ | refine walkL_block ?_ | (refine walkL_region fun K hK => ?_; simp (maxSteps := 4000000) only [go_sem, gr, gv]; refine hK _ ?_; clear hK K) | refine walkL_nil ?_ | refine walkL_ret ?_ | refine walkL_exit ?_ | refine blockA_here ?_ | refine blockA_other rfl ?_ | refine blockA_ret ?_ | refine blockA_normal ?_ | refine thenA_ret ?_ | refine thenA_exit ?_ | refine thenA_normal ?_)
          simp (maxSteps := 4000000) only [go_sem, hq]
          obtain ⟨N, hN⟩ : ∃ N, N = out.length := ⟨_, rfl⟩
          have hNp : 0 < out.length := hlen.1
          repeat (first | refine walkL_true rfl ?_ | refine walkL_false rfl ?_ | refine walkL_seq ?_ | refine walkL_skip ?_ | refine walkL_block ?_ | (refine walkL_region fun K hK => ?_; simp (maxSteps := 4000000) only [go_sem, flRows_len, hNp]; refine hK _ ?_; clear hK K) | refine walkL_nil ?_ | refine walkL_ret ?_ | refine walkL_exit ?_ | refine blockA_here ?_ | refine blockA_other rfl ?_ | refine blockA_ret ?_ | refine blockA_normal ?_ | refine thenA_ret ?_ | refine thenA_exit ?_ | refine thenA_normal ?_)
          refine walkL_loopS (fun (a : Nat × Nat) => [(34, .d (.i (a.2 : Int))), (5, fl5 a.1), (32, fl32 out.length (flRows out) a.1), (11, .undef), (27, .undef), (28, .undef), (30, .undef)]) (fun a => [(11, flM (.arr 139 3 (flRows (out ++ (out.take a.2).map (addF i v c.cost)))) a.1), (65, flM' (.arr 139 3 (flRows (out ++ (out.take a.2).map (addF i v c.cost)))) a.1)]) (fun a => a.2 ≤ out.length) (fun a => out.length - a.2) (0, 0) ?_ (Nat.zero_le _) ?_
          · simp (maxSteps := 4000000) only [go_sem, fl5, fl32, flM, flM']
            refine weak_of [] ?_ ?_ rfl rfl <;> simp [lessT, lessM, lessB, AV.less]
            all_goals first | done | rfl | trace_state
          · rintro ⟨cf, j⟩ hj
            dsimp only at hj ⊢
            obtain ⟨X, hX⟩ : ∃ X, X = flRows (out ++ (out.take j).map (addF i v c.cost)) := ⟨_, rfl⟩
            have hXl : X.length = out.length + j := by rw [hX, flRows_len]; simp; omega
            have hXh : headIs 3 X = true := by rw [hX]; exact flRows_head _
            have hXt : X.take out.length = flRows out := by rw [hX]; simp [flRows]
            rw [← hX]
            rcases cf with _ | _ | cf
            · simp (maxSteps := 4000000) only [go_sem, fl5, fl32, flM, flM']
              repeat (first | refine walkL_seq ?_ | refine walkL_skip ?_ | refine walkL_block ?_ | (refine walkL_region fun K hK => ?_; simp (maxSteps := 4000000) only [go_sem]; refine hK _ ?_; clear hK K) | refine walkL_nil ?_ | refine walkL_ret ?_ | refine walkL_exit ?_ | refine blockA_here ?_ | refine blockA_other rfl ?_ | refine blockA_ret ?_ | refine blockA_normal ?_ | refine thenA_ret ?_ | refine thenA_exit ?_ | refine thenA_normal ?_)
              refine walkL_cond rfl (fun hb => ?_) (fun hb => ?_)
              · have hltj : j < out.length := by simpa using hb
                have hwj : IntKind.i64.wrap ((j : Int) + 1) = ((j + 1 : Nat) : Int) := by rw [wr_small (by omega)]; simp
                obtain ⟨f, hf⟩ : ∃ f, out[j]? = some f := ⟨_, List.getElem?_eq_getElem hltj⟩
                have gR : (flRows out)[j]? = some [.i f.set, .i f.load, .i f.cost] := flRows_at hf
                have gX : X[j]? = some [.i f.set, .i f.load, .i f.cost] := by rw [hX]; exact flRows_at (by rw [List.getElem?_append_left hltj]; exact hf)
                have hnx : flRows (out ++ (out.take (j + 1)).map (addF i v c.cost)) = X ++ [[.i (bOr .i64 f.set (bShl .i64 1 (i : Int))), .i (wr (f.load + v)), .i (wr (f.cost + c.cost))]] := by
                  rw [List.take_add_one, hf, Option.toList_some, List.map_append, ← List.append_assoc, List.map_cons, List.map_nil, flRows_push, ← hX]; rfl
                have hn1 : X.length + 1 ≤ 549755813888 := by omega
                have hn2 : 0 < X.length := by omega
                have hn3 : out.length ≤ X.length := by omega
                have hn4 : out.length ≤ X.length + 1 := by omega
                have hn5 : j < X.length := by omega
                repeat (first | refine walkL_seq ?_ | refine walkL_skip ?_ | refine walkL_block ?_ | (refine walkL_region fun K hK => ?_; simp (maxSteps := 4000000) only [go_sem, gX, hltj, hn5, flRows_len, Nat.zero_add]; refine hK _ ?_; clear hK K) | refine walkL_nil ?_ | refine walkL_ret ?_ | refine walkL_exit ?_ | refine blockA_here ?_ | refine blockA_other rfl ?_ | refine blockA_ret ?_ | refine blockA_normal ?_ | refine thenA_ret ?_ | refine thenA_exit ?_ | refine thenA_normal ?_)
                refine walkL_caps 11 rfl (by intro hx; rw [hx] at hn2; simp at hn2) ?_ ?_
                · simp (maxSteps := 4000000) only [go_sem, hn3, hXt, gX, Nat.zero_add]
                  refine walkL_drawnA (by kernel_rfl) (by kernel_rfl) fun K hK => ?_
                  simp (maxSteps := 4000000) only [go_sem, gv, gc, hni, hn1, hn2, hXh]
                  refine ⟨by kernel_rfl, hK _ ?_⟩
                  clear hK K
                  repeat (first | refine walkL_seq ?_ | refine walkL_skip ?_ | refine walkL_block ?_ | (refine walkL_region fun K hK => ?_; simp (maxSteps := 4000000) only [go_sem, hwj]; refine hK _ ?_; clear hK K) | refine walkL_nil ?_ | refine walkL_ret ?_ | refine walkL_exit ?_ | refine blockA_here ?_ | refine blockA_other rfl ?_ | refine blockA_ret ?_ | refine blockA_normal ?_ | refine thenA_ret ?_ | refine thenA_exit ?_ | refine thenA_normal ?_)
                  refine ⟨rfl, (1, j + 1), ?_, hltj, by dsimp only; omega⟩
                  rw [hnx]
                  simp (maxSteps := 4000000) only [go_sem, fl5, fl32, flM, flM']
                  refine weak_of [] ?_ ?_ rfl rfl <;> simp [lessT, lessM, lessB, AV.less]
                  all_goals first | done | rfl | trace_state
                · simp (maxSteps := 4000000) only [go_sem, gX, Nat.zero_add]
                  refine walkL_drawnA (by kernel_rfl) (by kernel_rfl) fun K hK => ?_
                  simp (maxSteps := 4000000) only [go_sem, gv, gc, hni, hn1, hn2, hXh]
                  refine ⟨by kernel_rfl, hK _ ?_⟩
                  clear hK K
                  repeat (first | refine walkL_seq ?_ | refine walkL_skip ?_ | refine walkL_nil ?_ | refine walkL_ret ?_ | refine walkL_exit ?_ | refine blockA_here ?_ | refine blockA_other rfl ?_ | refine blockA_ret ?_ | refine blockA_normal ?_ | refine thenA_ret ?_ | refine thenA_exit ?_ | refine thenA_normal ?_)
                  refine walkL_settle 11 ?_
                  simp (maxSteps := 4000000) only [go_sem, hn4, Nat.zero_add]
                  repeat (first | refine walkL_seq ?_ | refine walkL_skip ?_ | refine walkL_block ?_ | (refine walkL_region fun K hK => ?_; simp (maxSteps := 4000000) only [go_sem, hwj]; refine hK _ ?_; clear hK K) | refine walkL_nil ?_ | refine walkL_ret ?_ | refine walkL_exit ?_ | refine blockA_here ?_ | refine blockA_other rfl ?_ | refine blockA_ret ?_ | refine blockA_normal ?_ | refine thenA_ret ?_ | refine thenA_exit ?_ | refine thenA_normal ?_)
                  refine ⟨rfl, (0, j + 1), ?_, hltj, by dsimp only; omega⟩
                  rw [hnx]
                  simp (maxSteps := 4000000) only [go_sem, fl5, fl32, flM, flM']
                  refine weak_of [] ?_ ?_ rfl rfl <;> simp [lessT, lessM, lessB, AV.less]
                  all_goals first | done | rfl | trace_state
              · have hje : j = out.length := by (have : ¬ j < out.length := by simpa using hb); omega
                rw [hje, List.take_length] at hX
                have hX2 : flRows (flightsTo s.carr L h (i + 1)) = X := by rw [hnext, hX]
                repeat (first | refine walkL_seq ?_ | refine walkL_skip ?_ | refine walkL_block ?_ | (refine walkL_region fun K hK => ?_; simp (maxSteps := 4000000) only [go_sem, hw]; refine hK _ ?_; clear hK K) | refine walkL_nil ?_ | refine walkL_ret ?_ | refine walkL_exit ?_ | refine blockA_here ?_ | refine blockA_other rfl ?_ | refine blockA_ret ?_ | refine blockA_normal ?_ | refine thenA_ret ?_ | refine thenA_exit ?_ | refine thenA_normal ?_)
                refine ⟨rfl, (0, i + 1), ?_, hlt, by dsimp only; omega⟩
                rw [hX2]
                simp (maxSteps := 4000000) only [go_sem, fl5, flM, flM']
                refine weak_of [] ?_ ?_ rfl rfl <;> simp [lessT, lessM, lessB, AV.less]
                all_goals first | done | rfl | trace_state
            · simp (maxSteps := 4000000) only [go_sem, fl5, fl32, flM, flM']
              repeat (first | refine walkL_seq ?_ | refine walkL_skip ?_ | refine walkL_block ?_ | (refine walkL_region fun K hK => ?_; simp (maxSteps := 4000000) only [go_sem]; refine hK _ ?_; clear hK K) | refine walkL_nil ?_ | refine walkL_ret ?_ | refine walkL_exit ?_ | refine blockA_here ?_ | refine blockA_other rfl ?_ | refine blockA_ret ?_ | refine blockA_normal ?_ | refine thenA_ret ?_ | refine thenA_exit ?_ | refine thenA_normal ?_)
              refine walkL_cond rfl (fun hb => ?_) (fun hb => ?_)
              · have hltj : j < out.length := by simpa using hb
                have hwj : IntKind.i64.wrap ((j : Int) + 1) = ((j + 1 : Nat) : Int) := by rw [wr_small (by omega)]; simp
                obtain ⟨f, hf⟩ : ∃ f, out[j]? = some f := ⟨_, List.getElem?_eq_getElem hltj⟩
                have gR : (flRows out)[j]? = some [.i f.set, .i f.load, .i f.cost] := flRows_at hf
                have gX : X[j]? = some [.i f.set, .i f.load, .i f.cost] := by rw [hX]; exact flRows_at (by rw [List.getElem?_append_left hltj]; exact hf)
                have hnx : flRows (out ++ (out.take (j + 1)).map (addF i v c.cost)) = X ++ [[.i (bOr .i64 f.set (bShl .i64 1 (i : Int))), .i (wr (f.load + v)), .i (wr (f.cost + c.cost))]] := by
                  rw [List.take_add_one, hf, Option.toList_some, List.map_append, ← List.append_assoc, List.map_cons, List.map_nil, flRows_push, ← hX]; rfl
                have hn1 : X.length + 1 ≤ 549755813888 := by omega
                have hn2 : 0 < X.length := by omega
                have hn3 : out.length ≤ X.length := by omega
                have hn4 : out.length ≤ X.length + 1 := by omega
                have hn5 : j < X.length := by omega
                repeat (first | refine walkL_seq ?_ | refine walkL_skip ?_ | refine walkL_block ?_ | (refine walkL_region fun K hK => ?_; simp (maxSteps := 4000000) only [go_sem, gR, hltj, hn5, flRows_len, Nat.zero_add]; refine hK _ ?_; clear hK K) | refine walkL_nil ?_ | refine walkL_ret ?_ | refine walkL_exit ?_ | refine blockA_here ?_ | refine blockA_other rfl ?_ | refine blockA_ret ?_ | refine blockA_normal ?_ | refine thenA_ret ?_ | refine thenA_exit ?_ | refine thenA_normal ?_)
                refine walkL_caps 65 rfl (by intro hx; rw [hx] at hn2; simp at hn2) ?_ ?_
                · simp (maxSteps := 4000000) only [go_sem, hn3, hXt, gX, Nat.zero_add]
                  refine walkL_drawnA (by kernel_rfl) (by kernel_rfl) fun K hK => ?_
                  simp (maxSteps := 4000000) only [go_sem, gv, gc, hni, hn1, hn2, hXh]
                  refine ⟨by kernel_rfl, hK _ ?_⟩
                  clear hK K
                  repeat (first | refine walkL_seq ?_ | refine walkL_skip ?_ | refine walkL_block ?_ | (refine walkL_region fun K hK => ?_; simp (maxSteps := 4000000) only [go_sem, hwj]; refine hK _ ?_; clear hK K) | refine walkL_nil ?_ | refine walkL_ret ?_ | refine walkL_exit ?_ | refine blockA_here ?_ | refine blockA_other rfl ?_ | refine blockA_ret ?_ | refine blockA_normal ?_ | refine thenA_ret ?_ | refine thenA_exit ?_ | refine thenA_normal ?_)
                  refine ⟨rfl, (1, j + 1), ?_, hltj, by dsimp only; omega⟩
                  rw [hnx]
                  simp (maxSteps := 4000000) only [go_sem, fl5, fl32, flM, flM']
                  refine weak_of [] ?_ ?_ rfl rfl <;> simp [lessT, lessM, lessB, AV.less]
                  all_goals first | done | rfl | trace_state
                · simp (maxSteps := 4000000) only [go_sem, gX, Nat.zero_add]
                  refine walkL_drawnA (by kernel_rfl) (by kernel_rfl) fun K hK => ?_
                  simp (maxSteps := 4000000) only [go_sem, gv, gc, hni, hn1, hn2, hXh]
                  refine ⟨by kernel_rfl, hK _ ?_⟩
                  clear hK K
                  repeat (first | refine walkL_seq ?_ | refine walkL_skip ?_ | refine walkL_nil ?_ | refine walkL_ret ?_ | refine walkL_exit ?_ | refine blockA_here ?_ | refine blockA_other rfl ?_ | refine blockA_ret ?_ | refine blockA_normal ?_ | refine thenA_ret ?_ | refine thenA_exit ?_ | refine thenA_normal ?_)
                  refine walkL_settle 65 ?_
                  simp (maxSteps := 4000000) only [go_sem, hn4, Nat.zero_add]
                  repeat (first | refine walkL_seq ?_ | refine walkL_skip ?_ | refine walkL_block ?_ | (refine walkL_region fun K hK => ?_; simp (maxSteps := 4000000) only [go_sem, hwj]; refine hK _ ?_; clear hK K) | refine walkL_nil ?_ | refine walkL_ret ?_ | refine walkL_exit ?_ | refine blockA_here ?_ | refine blockA_other rfl ?_ | refine blockA_ret ?_ | refine blockA_normal ?_ | refine thenA_ret ?_ | refine thenA_exit ?_ | refine thenA_normal ?_)
                  refine ⟨rfl, (1, j + 1), ?_, hltj, by dsimp only; omega⟩
                  rw [hnx]
                  simp (maxSteps := 4000000) only [go_sem, fl5, fl32, flM, flM']
                  refine weak_of [] ?_ ?_ rfl rfl <;> simp [lessT, lessM, lessB, AV.less]
                  all_goals first | done | rfl | trace_state
              · have hje : j = out.length := by (have : ¬ j < out.length := by simpa using hb); omega
                rw [hje, List.take_length] at hX
                have hX2 : flRows (flightsTo s.carr L h (i + 1)) = X := by rw [hnext, hX]
                repeat (first | refine walkL_seq ?_ | refine walkL_skip ?_ | refine walkL_block ?_ | (refine walkL_region fun K hK => ?_; simp (maxSteps := 4000000) only [go_sem, hw]; refine hK _ ?_; clear hK K) | refine walkL_nil ?_ | refine walkL_ret ?_ | refine walkL_exit ?_ | refine blockA_here ?_ | refine blockA_other rfl ?_ | refine blockA_ret ?_ | refine blockA_normal ?_ | refine thenA_ret ?_ | refine thenA_exit ?_ | refine thenA_normal ?_)
                refine ⟨rfl, (1, i + 1), ?_, hlt, by dsimp only; omega⟩
                rw [hX2]
                simp (maxSteps := 4000000) only [go_sem, fl5, flM, flM']
                refine weak_of [] ?_ ?_ rfl rfl <;> simp [lessT, lessM, lessB, AV.less]
                all_goals first | done | rfl | trace_state
            · simp (maxSteps := 4000000) only [go_sem, fl5, fl32, flM, flM']
              repeat (first | refine walkL_seq ?_ | refine walkL_skip ?_ | refine walkL_block ?_ | (refine walkL_region fun K hK => ?_; simp (maxSteps := 4000000) only [go_sem]; refine hK _ ?_; clear hK K) | refine walkL_nil ?_ | refine walkL_ret ?_ | refine walkL_exit ?_ | refine blockA_here ?_ | refine blockA_other rfl ?_ | refine blockA_ret ?_ | refine blockA_normal ?_ | refine thenA_ret ?_ | refine thenA_exit ?_ | refine thenA_normal ?_)
              refine walkL_cond rfl (fun hb => ?_) (fun hb => ?_)
              · have hltj : j < out.length := by simpa using hb
                have hwj : IntKind.i64.wrap ((j : Int) + 1) = ((j + 1 : Nat) : Int) := by rw [wr_small (by omega)]; simp
                obtain ⟨f, hf⟩ : ∃ f, out[j]? = some f := ⟨_, List.getElem?_eq_getElem hltj⟩
                have gR : (flRows out)[j]? = some [.i f.set, .i f.load, .i f.cost] := flRows_at hf
                have gX : X[j]? = some [.i f.set, .i f.load, .i f.cost] := by rw [hX]; exact flRows_at (by rw [List.getElem?_append_left hltj]; exact hf)
                have hnx : flRows (out ++ (out.take (j + 1)).map (addF i v c.cost)) = X ++ [[.i (bOr .i64 f.set (bShl .i64 1 (i : Int))), .i (wr (f.load + v)), .i (wr (f.cost + c.cost))]] := by
                  rw [List.take_add_one, hf, Option.toList_some, List.map_append, ← List.append_assoc, List.map_cons, List.map_nil, flRows_push, ← hX]; rfl
                have hn1 : X.length + 1 ≤ 549755813888 := by omega
                have hn2 : 0 < X.length := by omega
                have hn3 : out.length ≤ X.length := by omega
                have hn4 : out.length ≤ X.length + 1 := by omega
                have hn5 : j < X.length := by omega
                repeat (first | refine walkL_seq ?_ | refine walkL_skip ?_ | refine walkL_block ?_ | (refine walkL_region fun K hK => ?_; simp (maxSteps := 4000000) only [go_sem, gX, hltj, hn5, flRows_len, Nat.zero_add]; refine hK _ ?_; clear hK K) | refine walkL_nil ?_ | refine walkL_ret ?_ | refine walkL_exit ?_ | refine blockA_here ?_ | refine blockA_other rfl ?_ | refine blockA_ret ?_ | refine blockA_normal ?_ | refine thenA_ret ?_ | refine thenA_exit ?_ | refine thenA_normal ?_)
                refine walkL_caps 65 rfl (by intro hx; rw [hx] at hn2; simp at hn2) ?_ ?_
                · simp (maxSteps := 4000000) only [go_sem, hn3, hXt, gX, Nat.zero_add]
                  refine walkL_drawnA (by kernel_rfl) (by kernel_rfl) fun K hK => ?_
                  simp (maxSteps := 4000000) only [go_sem, gv, gc, hni, hn1, hn2, hXh]
                  refine ⟨by kernel_rfl, hK _ ?_⟩
                  clear hK K
                  repeat (first | refine walkL_seq ?_ | refine walkL_skip ?_ | refine walkL_block ?_ | (refine walkL_region fun K hK => ?_; simp (maxSteps := 4000000) only [go_sem, hwj]; refine hK _ ?_; clear hK K) | refine walkL_nil ?_ | refine walkL_ret ?_ | refine walkL_exit ?_ | refine blockA_here ?_ | refine blockA_other rfl ?_ | refine blockA_ret ?_ | refine blockA_normal ?_ | refine thenA_ret ?_ | refine thenA_exit ?_ | refine thenA_normal ?_)
                  refine ⟨rfl, (1, j + 1), ?_, hltj, by dsimp only; omega⟩
                  rw [hnx]
                  simp (maxSteps := 4000000) only [go_sem, fl5, fl32, flM, flM']
                  refine weak_of [] ?_ ?_ rfl rfl <;> simp [lessT, lessM, lessB, AV.less]
                  all_goals first | done | rfl | trace_state
                · simp (maxSteps := 4000000) only [go_sem, gX, Nat.zero_add]
                  refine walkL_drawnA (by kernel_rfl) (by kernel_rfl) fun K hK => ?_
                  simp (maxSteps := 4000000) only [go_sem, gv, gc, hni, hn1, hn2, hXh]
                  refine ⟨by kernel_rfl, hK _ ?_⟩
                  clear hK K
                  repeat (first | refine walkL_seq ?_ | refine walkL_skip ?_ | refine walkL_nil ?_ | refine walkL_ret ?_ | refine walkL_exit ?_ | refine blockA_here ?_ | refine blockA_other rfl ?_ | refine blockA_ret ?_ | refine blockA_normal ?_ | refine thenA_ret ?_ | refine thenA_exit ?_ | refine thenA_normal ?_)
                  refine walkL_settle 65 ?_
                  simp (maxSteps := 4000000) only [go_sem, hn4, Nat.zero_add]
                  repeat (first | refine walkL_seq ?_ | refine walkL_skip ?_ | refine walkL_block ?_ | (refine walkL_region fun K hK => ?_; simp (maxSteps := 4000000) only [go_sem, hwj]; refine hK _ ?_; clear hK K) | refine walkL_nil ?_ | refine walkL_ret ?_ | refine walkL_exit ?_ | refine blockA_here ?_ | refine blockA_other rfl ?_ | refine blockA_ret ?_ | refine blockA_normal ?_ | refine thenA_ret ?_ | refine thenA_exit ?_ | refine thenA_normal ?_)
                  refine ⟨rfl, (2, j + 1), ?_, hltj, by dsimp only; omega⟩
                  rw [hnx]
                  simp (maxSteps := 4000000) only [go_sem, fl5, fl32, flM, flM']
                  refine weak_of [] ?_ ?_ rfl rfl <;> simp [lessT, lessM, lessB, AV.less]
                  all_goals first | done | rfl | trace_state
              · have hje : j = out.length := by (have : ¬ j < out.length := by simpa using hb); omega
                rw [hje, List.take_length] at hX
                have hX2 : flRows (flightsTo s.carr L h (i + 1)) = X := by rw [hnext, hX]
                repeat (first | refine walkL_seq ?_ | refine walkL_skip ?_ | refine walkL_block ?_ | (refine walkL_region fun K hK => ?_; simp (maxSteps := 4000000) only [go_sem, hw]; refine hK _ ?_; clear hK K) | refine walkL_nil ?_ | refine walkL_ret ?_ | refine walkL_exit ?_ | refine blockA_here ?_ | refine blockA_other rfl ?_ | refine blockA_ret ?_ | refine blockA_normal ?_ | refine thenA_ret ?_ | refine thenA_exit ?_ | refine thenA_normal ?_)
                refine ⟨rfl, (1, i + 1), ?_, hlt, by dsimp only; omega⟩
                rw [hX2]
                simp (maxSteps := 4000000) only [go_sem, fl5, flM, flM']
                refine weak_of [] ?_ ?_ rfl rfl <;> simp [lessT, lessM, lessB, AV.less]
                all_goals first | done | rfl | trace_state
      · have he : i = L.length := by (have : ¬ i < L.length := by simpa using hb); omega
        subst he
        repeat (first | refine walkL_seq ?_ | refine walkL_skip ?_ | refine walkL_block ?_ | (refine walkL_region fun K hK => ?_; simp (maxSteps := 4000000) only [go_sem]; refine hK _ ?_; clear hK K) | refine walkL_nil ?_ | refine walkL_ret ?_ | refine walkL_exit ?_ | refine blockA_here ?_ | refine blockA_other rfl ?_ | refine blockA_ret ?_ | refine blockA_normal ?_ | refine thenA_ret ?_ | refine thenA_exit ?_ | refine thenA_normal ?_)
        simp (maxSteps := 4000000) only [go_sem, hout]
    · simp (maxSteps := 4000000) only [go_sem, fl5, flM, flM']
      repeat (first | refine walkL_seq ?_ | refine walkL_skip ?_ | refine walkL_block ?_ | (refine walkL_region fun K hK => ?_; simp (maxSteps := 4000000) only [go_sem]; refine hK _ ?_; clear hK K) | refine walkL_nil ?_ | refine walkL_ret ?_ | refine walkL_exit ?_ | refine blockA_here ?_ | refine blockA_other rfl ?_ | refine blockA_ret ?_ | refine blockA_normal ?_ | refine thenA_ret ?_ | refine thenA_exit ?_ | refine thenA_normal ?_)
      refine walkL_cond rfl (fun hb => ?_) (fun hb => ?_)
      · have hlt : i < L.length := by simpa using hb
        have hw : IntKind.i64.wrap ((i : Int) + 1) = ((i + 1 : Nat) : Int) := by rw [wr_small (by omega)]; simp
        obtain ⟨r, hr0⟩ : ∃ r, L[i]? = some r := ⟨_, List.getElem?_eq_getElem hlt⟩
        have gr := listRows_at hr0
        have hrl : r.length = H := hr r (List.mem_of_getElem? hr0)
        have gv := intRows_get (l := r) (i := (h : Int)) (by omega) (by simp; omega)
        have hni : ¬ ((i : Int) < 0) := by omega
        obtain ⟨c, hc0⟩ : ∃ c, s.carr[i]? = some c := ⟨_, List.getElem?_eq_getElem (by omega)⟩
        have gc := carrRows_at hc0
        rw [Carrier.row] at gc
        have hL0 : L.getD i [] = r := by rw [List.getD, hr0]; rfl
        have hC0 : s.carr.getD i noCarrier = c := by rw [List.getD, hc0]; rfl
        obtain ⟨v, hv⟩ : ∃ v, v = getI r (h : Int) := ⟨_, rfl⟩
        rw [← hv, intVal] at gv
        have hnext : flightsTo s.carr L h (i + 1) = stepFl i v c.cost out := by rw [flightsTo, hL0, hC0, ← hv, ← hout]
        by_cases hv0 : v = 0
        · have hq : (v == 0) = true := by simp [hv0]
          rw [stepFl, if_pos hv0] at hnext
          repeat (first | refine walkL_seq ?_ | refine walkL_skip ?_ | refine walkL_block ?_ | (refine walkL_region fun K hK => ?_; simp (maxSteps := 4000000) only [go_sem, gr, gv, hw]; refine hK _ ?_; clear hK K) | refine walkL_nil ?_ | refine walkL_ret ?_ | refine walkL_exit ?_ | refine blockA_here ?_ | refine blockA_other rfl ?_ | refine blockA_ret ?_ | refine blockA_normal ?_ | refine thenA_ret ?_ | refine thenA_exit ?_ | refine thenA_normal ?_)
          simp (maxSteps := 4000000) only [go_sem, hq]
          repeat (first | refine walkL_true rfl ?_ | refine walkL_false rfl ?_ | refine walkL_seq ?_ | refine walkL_skip ?_ | refine walkL_block ?_ | (refine walkL_region fun K hK => ?_; simp (maxSteps := 4000000) only [go_sem, hw]; refine hK _ ?_; clear hK K) | refine walkL_nil ?_ | refine walkL_ret ?_ | refine walkL_exit ?_ | refine blockA_here ?_ | refine blockA_other rfl ?_ | refine blockA_ret ?_ | refine blockA_normal ?_ | refine thenA_ret ?_ | refine thenA_exit ?_ | refine thenA_normal ?_)
          refine ⟨rfl, (1, i + 1), ?_, hlt, by dsimp only; omega⟩
          rw [hnext]
          simp (maxSteps := 4000000) only [go_sem, fl5, flM, flM']
          refine weak_of [] ?_ ?_ rfl rfl <;> simp [lessT, lessM, lessB, AV.less]
          all_goals first | done | rfl | trace_state
        · have hq : (v == 0) = false := by simpa using hv0
          rw [stepFl, if_neg hv0] at hnext
          repeat (first | refine walkL_seq ?_ | refine walkL_skip ?_ | refine walkL_block ?_ | (refine walkL_region fun K hK => ?_; simp (maxSteps := 4000000) only [go_sem, gr, gv]; refine hK _ ?_; clear hK K) | refine walkL_nil ?_ | refine walkL_ret ?_ | refine walkL_exit ?_ | refine blockA_here ?_ | refine blockA_other rfl ?_ | refine blockA_ret ?_ | refine blockA_normal ?_ | refine thenA_ret ?_ | refine thenA_exit ?_ | refine thenA_normal ?_)
          simp (maxSteps := 4000000) only [go_sem, hq]
          obtain ⟨N, hN⟩ : ∃ N, N = out.length := ⟨_, rfl⟩
          have hNp : 0 < out.length := hlen.1
          repeat (first | refine walkL_true rfl ?_ | refine walkL_false rfl ?_ | refine walkL_seq ?_ | refine walkL_skip ?_ | refine walkL_block ?_ | (refine walkL_region fun K hK => ?_; simp (maxSteps := 4000000) only [go_sem, flRows_len, hNp]; refine hK _ ?_; clear hK K) | refine walkL_nil ?_ | refine walkL_ret ?_ | refine walkL_exit ?_ | refine blockA_here ?_ | refine blockA_other rfl ?_ | refine blockA_ret ?_ | refine blockA_normal ?_ | refine thenA_ret ?_ | refine thenA_exit ?_ | refine thenA_normal ?_)
          refine walkL_loopS (fun (a : Nat × Nat) => [(34, .d (.i (a.2 : Int))), (5, fl5 a.1), (32, fl32 out.length (flRows out) a.1), (11, .undef), (27, .undef), (28, .undef), (30, .undef)]) (fun a => [(11, flM (.arr 139 3 (flRows (out ++ (out.take a.2).map (addF i v c.cost)))) a.1), (65, flM' (.arr 139 3 (flRows (out ++ (out.take a.2).map (addF i v c.cost)))) a.1)]) (fun a => a.2 ≤ out.length) (fun a => out.length - a.2) (2, 0) ?_ (Nat.zero_le _) ?_
          · simp (maxSteps := 4000000) only [go_sem, fl5, fl32, flM, flM']
            refine weak_of [] ?_ ?_ rfl rfl <;> simp [lessT, lessM, lessB, AV.less]
            all_goals first | done | rfl | trace_state
          · rintro ⟨cf, j⟩ hj
            dsimp only at hj ⊢
            obtain ⟨X, hX⟩ : ∃ X, X = flRows (out ++ (out.take j).map (addF i v c.cost)) := ⟨_, rfl⟩
            have hXl : X.length = out.length + j := by rw [hX, flRows_len]; simp; omega
            have hXh : headIs 3 X = true := by rw [hX]; exact flRows_head _
            have hXt : X.take out.length = flRows out := by rw [hX]; simp [flRows]
            rw [← hX]
            rcases cf with _ | _ | cf
            · simp (maxSteps := 4000000) only [go_sem, fl5, fl32, flM, flM']
              repeat (first | refine walkL_seq ?_ | refine walkL_skip ?_ | refine walkL_block ?_ | (refine walkL_region fun K hK => ?_; simp (maxSteps := 4000000) only [go_sem]; refine hK _ ?_; clear hK K) | refine walkL_nil ?_ | refine walkL_ret ?_ | refine walkL_exit ?_ | refine blockA_here ?_ | refine blockA_other rfl ?_ | refine blockA_ret ?_ | refine blockA_normal ?_ | refine thenA_ret ?_ | refine thenA_exit ?_ | refine thenA_normal ?_)
              refine walkL_cond rfl (fun hb => ?_) (fun hb => ?_)
              · have hltj : j < out.length := by simpa using hb
                have hwj : IntKind.i64.wrap ((j : Int) + 1) = ((j + 1 : Nat) : Int) := by rw [wr_small (by omega)]; simp
                obtain ⟨f, hf⟩ : ∃ f, out[j]? = some f := ⟨_, List.getElem?_eq_getElem hltj⟩
                have gR : (flRows out)[j]? = some [.i f.set, .i f.load, .i f.cost] := flRows_at hf
                have gX : X[j]? = some [.i f.set, .i f.load, .i f.cost] := by rw [hX]; exact flRows_at (by rw [List.getElem?_append_left hltj]; exact hf)
                have hnx : flRows (out ++ (out.take (j + 1)).map (addF i v c.cost)) = X ++ [[.i (bOr .i64 f.set (bShl .i64 1 (i : Int))), .i (wr (f.load + v)), .i (wr (f.cost + c.cost))]] := by
                  rw [List.take_add_one, hf, Option.toList_some, List.map_append, ← List.append_assoc, List.map_cons, List.map_nil, flRows_push, ← hX]; rfl
                have hn1 : X.length + 1 ≤ 549755813888 := by omega
                have hn2 : 0 < X.length := by omega
                have hn3 : out.length ≤ X.length := by omega
                have hn4 : out.length ≤ X.length + 1 := by omega
                have hn5 : j < X.length := by omega
                repeat (first | refine walkL_seq ?_ | refine walkL_skip ?_ | refine walkL_block ?_ | (refine walkL_region fun K hK => ?_; simp (maxSteps := 4000000) only [go_sem, gX, hltj, hn5, flRows_len, Nat.zero_add]; refine hK _ ?_; clear hK K) | refine walkL_nil ?_ | refine walkL_ret ?_ | refine walkL_exit ?_ | refine blockA_here ?_ | refine blockA_other rfl ?_ | refine blockA_ret ?_ | refine blockA_normal ?_ | refine thenA_ret ?_ | refine thenA_exit ?_ | refine thenA_normal ?_)
                refine walkL_caps 11 rfl (by intro hx; rw [hx] at hn2; simp at hn2) ?_ ?_
                · simp (maxSteps := 4000000) only [go_sem, hn3, hXt, gX, Nat.zero_add]
                  refine walkL_drawnA (by kernel_rfl) (by kernel_rfl) fun K hK => ?_
                  simp (maxSteps := 4000000) only [go_sem, gv, gc, hni, hn1, hn2, hXh]
                  refine ⟨by kernel_rfl, hK _ ?_⟩
                  clear hK K
                  repeat (first | refine walkL_seq ?_ | refine walkL_skip ?_ | refine walkL_block ?_ | (refine walkL_region fun K hK => ?_; simp (maxSteps := 4000000) only [go_sem, hwj]; refine hK _ ?_; clear hK K) | refine walkL_nil ?_ | refine walkL_ret ?_ | refine walkL_exit ?_ | refine blockA_here ?_ | refine blockA_other rfl ?_ | refine blockA_ret ?_ | refine blockA_normal ?_ | refine thenA_ret ?_ | refine thenA_exit ?_ | refine thenA_normal ?_)
                  refine ⟨rfl, (1, j + 1), ?_, hltj, by dsimp only; omega⟩
                  rw [hnx]
                  simp (maxSteps := 4000000) only [go_sem, fl5, fl32, flM, flM']
                  refine weak_of [] ?_ ?_ rfl rfl <;> simp [lessT, lessM, lessB, AV.less]
                  all_goals first | done | rfl | trace_state
                · simp (maxSteps := 4000000) only [go_sem, gX, Nat.zero_add]
                  refine walkL_drawnA (by kernel_rfl) (by kernel_rfl) fun K hK => ?_
                  simp (maxSteps := 4000000) only [go_sem, gv, gc, hni, hn1, hn2, hXh]
                  refine ⟨by kernel_rfl, hK _ ?_⟩
                  clear hK K
                  repeat (first | refine walkL_seq ?_ | refine walkL_skip ?_ | refine walkL_nil ?_ | refine walkL_ret ?_ | refine walkL_exit ?_ | refine blockA_here ?_ | refine blockA_other rfl ?_ | refine blockA_ret ?_ | refine blockA_normal ?_ | refine thenA_ret ?_ | refine thenA_exit ?_ | refine thenA_normal ?_)
                  refine walkL_settle 11 ?_
                  simp (maxSteps := 4000000) only [go_sem, hn4, Nat.zero_add]
                  repeat (first | refine walkL_seq ?_ | refine walkL_skip ?_ | refine walkL_block ?_ | (refine walkL_region fun K hK => ?_; simp (maxSteps := 4000000) only [go_sem, hwj]; refine hK _ ?_; clear hK K) | refine walkL_nil ?_ | refine walkL_ret ?_ | refine walkL_exit ?_ | refine blockA_here ?_ | refine blockA_other rfl ?_ | refine blockA_ret ?_ | refine blockA_normal ?_ | refine thenA_ret ?_ | refine thenA_exit ?_ | refine thenA_normal ?_)
                  refine ⟨rfl, (0, j + 1), ?_, hltj, by dsimp only; omega⟩
                  rw [hnx]
                  simp (maxSteps := 4000000) only [go_sem, fl5, fl32, flM, flM']
                  refine weak_of [] ?_ ?_ rfl rfl <;> simp [lessT, lessM, lessB, AV.less]
                  all_goals first | done | rfl | trace_state
              · have hje : j = out.length := by (have : ¬ j < out.length := by simpa using hb); omega
                rw [hje, List.take_length] at hX
                have hX2 : flRows (flightsTo s.carr L h (i + 1)) = X := by rw [hnext, hX]
                repeat (first | refine walkL_seq ?_ | refine walkL_skip ?_ | refine walkL_block ?_ | (refine walkL_region fun K hK => ?_; simp (maxSteps := 4000000) only [go_sem, hw]; refine hK _ ?_; clear hK K) | refine walkL_nil ?_ | refine walkL_ret ?_ | refine walkL_exit ?_ | refine blockA_here ?_ | refine blockA_other rfl ?_ | refine blockA_ret ?_ | refine blockA_normal ?_ | refine thenA_ret ?_ | refine thenA_exit ?_ | refine thenA_normal ?_)
                refine ⟨rfl, (0, i + 1), ?_, hlt, by dsimp only; omega⟩
                rw [hX2]
                simp (maxSteps := 4000000) only [go_sem, fl5, flM, flM']
                refine weak_of [] ?_ ?_ rfl rfl <;> simp [lessT, lessM, lessB, AV.less]
                all_goals first | done | rfl | trace_state
            · simp (maxSteps := 4000000) only [go_sem, fl5, fl32, flM, flM']
              repeat (first | refine walkL_seq ?_ | refine walkL_skip ?_ | refine walkL_block ?_ | (refine walkL_region fun K hK => ?_; simp (maxSteps := 4000000) only [go_sem]; refine hK _ ?_; clear hK K) | refine walkL_nil ?_ | refine walkL_ret ?_ | refine walkL_exit ?_ | refine blockA_here ?_ | refine blockA_other rfl ?_ | refine blockA_ret ?_ | refine blockA_normal ?_ | refine thenA_ret ?_ | refine thenA_exit ?_ | refine thenA_normal ?_)
              refine walkL_cond rfl (fun hb => ?_) (fun hb => ?_)
              · have hltj : j < out.length := by simpa using hb
                have hwj : IntKind.i64.wrap ((j : Int) + 1) = ((j + 1 : Nat) : Int) := by rw [wr_small (by omega)]; simp
                obtain ⟨f, hf⟩ : ∃ f, out[j]? = some f := ⟨_, List.getElem?_eq_getElem hltj⟩
                have gR : (flRows out)[j]? = some [.i f.set, .i f.load, .i f.cost] := flRows_at hf
                have gX : X[j]? = some [.i f.set, .i f.load, .i f.cost] := by rw [hX]; exact flRows_at (by rw [List.getElem?_append_left hltj]; exact hf)
                have hnx : flRows (out ++ (out.take (j + 1)).map (addF i v c.cost)) = X ++ [[.i (bOr .i64 f.set (bShl .i64 1 (i : Int))), .i (wr (f.load + v)), .i (wr (f.cost + c.cost))]] := by
                  rw [List.take_add_one, hf, Option.toList_some, List.map_append, ← List.append_assoc, List.map_cons, List.map_nil, flRows_push, ← hX]; rfl
                have hn1 : X.length + 1 ≤ 549755813888 := by omega
                have hn2 : 0 < X.length := by omega
                have hn3 : out.length ≤ X.length := by omega
                have hn4 : out.length ≤ X.length + 1 := by omega
                have hn5 : j < X.length := by omega
                repeat (first | refine walkL_seq ?_ | refine walkL_skip ?_ | refine walkL_block ?_ | (refine walkL_region fun K hK => ?_; simp (maxSteps := 4000000) only [go_sem, gR, hltj, hn5, flRows_len, Nat.zero_add]; refine hK _ ?_; clear hK K) | refine walkL_nil ?_ | refine walkL_ret ?_ | refine walkL_exit ?_ | refine blockA_here ?_ | refine blockA_other rfl ?_ | refine blockA_ret ?_ | refine blockA_normal ?_ | refine thenA_ret ?_ | refine thenA_exit ?_ | refine thenA_normal ?_)
                refine walkL_caps 65 rfl (by intro hx; rw [hx] at hn2; simp at hn2) ?_ ?_
                · simp (maxSteps := 4000000) only [go_sem, hn3, hXt, gX, Nat.zero_add]
                  refine walkL_drawnA (by kernel_rfl) (by kernel_rfl) fun K hK => ?_
                  simp (maxSteps := 4000000) only [go_sem, gv, gc, hni, hn1, hn2, hXh]
                  refine ⟨by kernel_rfl, hK _ ?_⟩
                  clear hK K
                  repeat (first | refine walkL_seq ?_ | refine walkL_skip ?_ | refine walkL_block ?_ | (refine walkL_region fun K hK => ?_; simp (maxSteps := 4000000) only [go_sem, hwj]; refine hK _ ?_; clear hK K) | refine walkL_nil ?_ | refine walkL_ret ?_ | refine walkL_exit ?_ | refine blockA_here ?_ | refine blockA_other rfl ?_ | refine blockA_ret ?_ | refine blockA_normal ?_ | refine thenA_ret ?_ | refine thenA_exit ?_ | refine thenA_normal ?_)
                  refine ⟨rfl, (1, j + 1), ?_, hltj, by dsimp only; omega⟩
                  rw [hnx]
                  simp (maxSteps := 4000000) only [go_sem, fl5, fl32, flM, flM']
                  refine weak_of [] ?_ ?_ rfl rfl <;> simp [lessT, lessM, lessB, AV.less]
                  all_goals first | done | rfl | trace_state
                · simp (maxSteps := 4000000) only [go_sem, gX, Nat.zero_add]
                  refine walkL_drawnA (by kernel_rfl) (by kernel_rfl) fun K hK => ?_
                  simp (maxSteps := 4000000) only [go_sem, gv, gc, hni, hn1, hn2, hXh]
                  refine ⟨by kernel_rfl, hK _ ?_⟩
                  clear hK K
                  repeat (first | refine walkL_seq ?_ | refine walkL_skip ?_ | refine walkL_nil ?_ | refine walkL_ret ?_ | refine walkL_exit ?_ | refine blockA_here ?_ | refine blockA_other rfl ?_ | refine blockA_ret ?_ | refine blockA_normal ?_ | refine thenA_ret ?_ | refine thenA_exit ?_ | refine thenA_normal ?_)
                  refine walkL_settle 65 ?_
                  simp (maxSteps := 4000000) only [go_sem, hn4, Nat.zero_add]
                  repeat (first | refine walkL_seq ?_ | refine walkL_skip ?_ | refine walkL_block ?_ | (refine walkL_region fun K hK => ?_; simp (maxSteps := 4000000) only [go_sem, hwj]; refine hK _ ?_; clear hK K) | refine walkL_nil ?_ | refine walkL_ret ?_ | refine walkL_exit ?_ | refine blockA_here ?_ | refine blockA_other rfl ?_ | refine blockA_ret ?_ | refine blockA_normal ?_ | refine thenA_ret ?_ | refine thenA_exit ?_ | refine thenA_normal ?_)
                  refine ⟨rfl, (1, j + 1), ?_, hltj, by dsimp only; omega⟩
                  rw [hnx]
                  simp (maxSteps := 4000000) only [go_sem, fl5, fl32, flM, flM']
                  refine weak_of [] ?_ ?_ rfl rfl <;> simp [lessT, lessM, lessB, AV.less]
                  all_goals first | done | rfl | trace_state
              · have hje : j = out.length := by (have : ¬ j < out.length := by simpa using hb); omega
                rw [hje, List.take_length] at hX
                have hX2 : flRows (flightsTo s.carr L h (i + 1)) = X := by rw [hnext, hX]
                repeat (first | refine walkL_seq ?_ | refine walkL_skip ?_ | refine walkL_block ?_ | (refine walkL_region fun K hK => ?_; simp (maxSteps := 4000000) only [go_sem, hw]; refine hK _ ?_; clear hK K) | refine walkL_nil ?_ | refine walkL_ret ?_ | refine walkL_exit ?_ | refine blockA_here ?_ | refine blockA_other rfl ?_ | refine blockA_ret ?_ | refine blockA_normal ?_ | refine thenA_ret ?_ | refine thenA_exit ?_ | refine thenA_normal ?_)
                refine ⟨rfl, (1, i + 1), ?_, hlt, by dsimp only; omega⟩
                rw [hX2]
                simp (maxSteps := 4000000) only [go_sem, fl5, flM, flM']
                refine weak_of [] ?_ ?_ rfl rfl <;> simp [lessT, lessM, lessB, AV.less]
                all_goals first | done | rfl | trace_state
            · simp (maxSteps := 4000000) only [go_sem, fl5, fl32, flM, flM']
              repeat (first | refine walkL_seq ?_ | refine walkL_skip ?_ | refine walkL_block ?_ | (refine walkL_region fun K hK => ?_; simp (maxSteps := 4000000) only [go_sem]; refine hK _ ?_; clear hK K) | refine walkL_nil ?_ | refine walkL_ret ?_ | refine walkL_exit ?_ | refine blockA_here ?_ | refine blockA_other rfl ?_ | refine blockA_ret ?_ | refine blockA_normal ?_ | refine thenA_ret ?_ | refine thenA_exit ?_ | refine thenA_normal ?_)
              refine walkL_cond rfl (fun hb => ?_) (fun hb => ?_)
              · have hltj : j < out.length := by simpa using hb
                have hwj : IntKind.i64.wrap ((j : Int) + 1) = ((j + 1 : Nat) : Int) := by rw [wr_small (by omega)]; simp
                obtain ⟨f, hf⟩ : ∃ f, out[j]? = some f := ⟨_, List.getElem?_eq_getElem hltj⟩
                have gR : (flRows out)[j]? = some [.i f.set, .i f.load, .i f.cost] := flRows_at hf
                have gX : X[j]? = some [.i f.set, .i f.load, .i f.cost] := by rw [hX]; exact flRows_at (by rw [List.getElem?_append_left hltj]; exact hf)
                have hnx : flRows (out ++ (out.take (j + 1)).map (addF i v c.cost)) = X ++ [[.i (bOr .i64 f.set (bShl .i64 1 (i : Int))), .i (wr (f.load + v)), .i (wr (f.cost + c.cost))]] := by
                  rw [List.take_add_one, hf, Option.toList_some, List.map_append, ← List.append_assoc, List.map_cons, List.map_nil, flRows_push, ← hX]; rfl
                have hn1 : X.length + 1 ≤ 549755813888 := by omega
                have hn2 : 0 < X.length := by omega
                have hn3 : out.length ≤ X.length := by omega
                have hn4 : out.length ≤ X.length + 1 := by omega
                have hn5 : j < X.length := by omega
                repeat (first | refine walkL_seq ?_ | refine walkL_skip ?_ | refine walkL_block ?_ | (refine walkL_region fun K hK => ?_; simp (maxSteps := 4000000) only [go_sem, gX, hltj, hn5, flRows_len, Nat.zero_add]; refine hK _ ?_; clear hK K) | refine walkL_nil ?_ | refine walkL_ret ?_ | refine walkL_exit ?_ | refine blockA_here ?_ | refine blockA_other rfl ?_ | refine blockA_ret ?_ | refine blockA_normal ?_ | refine thenA_ret ?_ | refine thenA_exit ?_ | refine thenA_normal ?_)
                refine walkL_caps 65 rfl (by intro hx; rw [hx] at hn2; simp at hn2) ?_ ?_
                · simp (maxSteps := 4000000) only [go_sem, hn3, hXt, gX, Nat.zero_add]
                  refine walkL_drawnA (by kernel_rfl) (by kernel_rfl) fun K hK => ?_
                  simp (maxSteps := 4000000) only [go_sem, gv, gc, hni, hn1, hn2, hXh]
                  refine ⟨by kernel_rfl, hK _ ?_⟩
                  clear hK K
                  repeat (first | refine walkL_seq ?_ | refine walkL_skip ?_ | refine walkL_block ?_ | (refine walkL_region fun K hK => ?_; simp (maxSteps := 4000000) only [go_sem, hwj]; refine hK _ ?_; clear hK K) | refine walkL_nil ?_ | refine walkL_ret ?_ | refine walkL_exit ?_ | refine blockA_here ?_ | refine blockA_other rfl ?_ | refine blockA_ret ?_ | refine blockA_normal ?_ | refine thenA_ret ?_ | refine thenA_exit ?_ | refine thenA_normal ?_)
                  refine ⟨rfl, (1, j + 1), ?_, hltj, by dsimp only; omega⟩
                  rw [hnx]
                  simp (maxSteps := 4000000) only [go_sem, fl5, fl32, flM, flM']
                  refine weak_of [] ?_ ?_ rfl rfl <;> simp [lessT, lessM, lessB, AV.less]
                  all_goals first | done | rfl | trace_state
                · simp (maxSteps := 4000000) only [go_sem, gX, Nat.zero_add]
                  refine walkL_drawnA (by kernel_rfl) (by kernel_rfl) fun K hK => ?_
                  simp (maxSteps := 4000000) only [go_sem, gv, gc, hni, hn1, hn2, hXh]
                  refine ⟨by kernel_rfl, hK _ ?_⟩
                  clear hK K
                  repeat (first | refine walkL_seq ?_ | refine walkL_skip ?_ | refine walkL_nil ?_ | refine walkL_ret ?_ | refine walkL_exit ?_ | refine blockA_here ?_ | refine blockA_other rfl ?_ | refine blockA_ret ?_ | refine blockA_normal ?_ | refine thenA_ret ?_ | refine thenA_exit ?_ | refine thenA_normal ?_)
                  refine walkL_settle 65 ?_
                  simp (maxSteps := 4000000) only [go_sem, hn4, Nat.zero_add]
                  repeat (first | refine walkL_seq ?_ | refine walkL_skip ?_ | refine walkL_block ?_ | (refine walkL_region fun K hK => ?_; simp (maxSteps := 4000000) only [go_sem, hwj]; refine hK _ ?_; clear hK K) | refine walkL_nil ?_ | refine walkL_ret ?_ | refine walkL_exit ?_ | refine blockA_here ?_ | refine blockA_other rfl ?_ | refine blockA_ret ?_ | refine blockA_normal ?_ | refine thenA_ret ?_ | refine thenA_exit ?_ | refine thenA_normal ?_)
                  refine ⟨rfl, (2, j + 1), ?_, hltj, by dsimp only; omega⟩
                  rw [hnx]
                  simp (maxSteps := 4000000) only [go_sem, fl5, fl32, flM, flM']
                  refine weak_of [] ?_ ?_ rfl rfl <;> simp [lessT, lessM, lessB, AV.less]
                  all_goals first | done | rfl | trace_state
              · have hje : j = out.length := by (have : ¬ j < out.length := by simpa using hb); omega
                rw [hje, List.take_length] at hX
                have hX2 : flRows (flightsTo s.carr L h (i + 1)) = X := by rw [hnext, hX]
                repeat (first | refine walkL_seq ?_ | refine walkL_skip ?_ | refine walkL_block ?_ | (refine walkL_region fun K hK => ?_; simp (maxSteps := 4000000) only [go_sem, hw]; refine hK _ ?_; clear hK K) | refine walkL_nil ?_ | refine walkL_ret ?_ | refine walkL_exit ?_ | refine blockA_here ?_ | refine blockA_other rfl ?_ | refine blockA_ret ?_ | refine blockA_normal ?_ | refine thenA_ret ?_ | refine thenA_exit ?_ | refine thenA_normal ?_)
                refine ⟨rfl, (1, i + 1), ?_, hlt, by dsimp only; omega⟩
                rw [hX2]
                simp (maxSteps := 4000000) only [go_sem, fl5, flM, flM']
                refine weak_of [] ?_ ?_ rfl rfl <;> simp [lessT, lessM, lessB, AV.less]
                all_goals first | done | rfl | trace_state
      · have he : i = L.length := by (have : ¬ i < L.length := by simpa using hb); omega
        subst he
        repeat (first | refine walkL_seq ?_ | refine walkL_skip ?_ | refine walkL_block ?_ | (refine walkL_region fun K hK => ?_; simp (maxSteps := 4000000) only [go_sem]; refine hK _ ?_; clear hK K) | refine walkL_nil ?_ | refine walkL_ret ?_ | refine walkL_exit ?_ | refine blockA_here ?_ | refine blockA_other rfl ?_ | refine blockA_ret ?_ | refine blockA_normal ?_ | refine thenA_ret ?_ | refine thenA_exit ?_ | refine thenA_normal ?_)
        simp (maxSteps := 4000000) only [go_sem, hout]
end Go.Ab
namespace Go.Ab
open Go.RowKit Go.Proofs
set_option maxHeartbeats 8000000
set_option maxRecDepth 20000
attribute [local irreducible] WalkL Walk
def fitsB6 (s : Supply) (h b : Int) : Bool := decide (wr (wr (s.stock + b) - wr (h * s.use.lo)) ≤ s.room)
def suffB (s : Supply) (h b : Int) : Bool := decide (wr (wr (s.stock + b) - wr (wr (h + 1) * s.use.hi)) ≥ s.reserve)
theorem zf59 (s : Supply) (L : List (List Int)) (H : Nat) (h b : Int) : Fn Tryz.prog 59 [.ptr (hutRow s L H) 0, .i h, .i b] (.bool (fitsB6 s h b)) := by
  refine fn_walk 32 Tryz.call59 Tryz.func59 rfl (by decide) fun J => ?_
  simp (maxSteps := 4000000) only [go_sem, St.start, Tryz.ntmps59, Tryz.results59, hutRow]
  repeat (first | refine walkL_seq ?_ | refine walkL_skip ?_ | refine walkL_block ?_ | (refine walkL_region fun K hK => ?_; simp (maxSteps := 4000000) only [go_sem]; refine hK _ ?_; clear hK K) | refine walkL_nil ?_ | refine walkL_ret ?_ | refine walkL_exit ?_ | refine blockA_here ?_ | refine blockA_other rfl ?_ | refine blockA_ret ?_ | refine blockA_normal ?_ | refine thenA_ret ?_ | refine thenA_exit ?_ | refine thenA_normal ?_)
  refine walkL_drawn (by kernel_rfl) (by kernel_rfl) fun K hK => ?_
  simp (maxSteps := 4000000) only [go_sem]
  refine ⟨by kernel_rfl, hK _ ?_⟩
  clear hK K
  repeat (first | refine walkL_seq ?_ | refine walkL_skip ?_ | refine walkL_block ?_ | (refine walkL_region fun K hK => ?_; simp (maxSteps := 4000000) only [go_sem]; refine hK _ ?_; clear hK K) | refine walkL_nil ?_ | refine walkL_ret ?_ | refine walkL_exit ?_ | refine blockA_here ?_ | refine blockA_other rfl ?_ | refine blockA_ret ?_ | refine blockA_normal ?_ | refine thenA_ret ?_ | refine thenA_exit ?_ | refine thenA_normal ?_)
  simp (maxSteps := 4000000) only [go_sem, fitsB6]
theorem zf197 (s : Supply) (L : List (List Int)) (H : Nat) (h b : Int) : Fn Tryz.prog 197 [.ptr (hutRow s L H) 0, .i h, .i b] (.bool (suffB s h b)) := by
  refine fn_walk 33 Tryz.call197 Tryz.func197 rfl (by decide) fun J => ?_
  simp (maxSteps := 4000000) only [go_sem, St.start, Tryz.ntmps197, Tryz.results197, hutRow]
  repeat (first | refine walkL_seq ?_ | refine walkL_skip ?_ | refine walkL_block ?_ | (refine walkL_region fun K hK => ?_; simp (maxSteps := 4000000) only [go_sem]; refine hK _ ?_; clear hK K) | refine walkL_nil ?_ | refine walkL_ret ?_ | refine walkL_exit ?_ | refine blockA_here ?_ | refine blockA_other rfl ?_ | refine blockA_ret ?_ | refine blockA_normal ?_ | refine thenA_ret ?_ | refine thenA_exit ?_ | refine thenA_normal ?_)
  refine walkL_drawn (by kernel_rfl) (by kernel_rfl) fun K hK => ?_
  simp (maxSteps := 4000000) only [go_sem]
  refine ⟨by kernel_rfl, hK _ ?_⟩
  clear hK K
  repeat (first | refine walkL_seq ?_ | refine walkL_skip ?_ | refine walkL_block ?_ | (refine walkL_region fun K hK => ?_; simp (maxSteps := 4000000) only [go_sem]; refine hK _ ?_; clear hK K) | refine walkL_nil ?_ | refine walkL_ret ?_ | refine walkL_exit ?_ | refine blockA_here ?_ | refine blockA_other rfl ?_ | refine blockA_ret ?_ | refine blockA_normal ?_ | refine thenA_ret ?_ | refine thenA_exit ?_ | refine thenA_normal ?_)
  simp (maxSteps := 4000000) only [go_sem, suffB]
theorem zf158 (hut : List DV) (h b : Int) : Fn Tryz.prog 158 [.agg [.ptr hut 0, .any], .agg [.i h, .i b]] (.fn 195 [.ptr [.ptr hut 0, .any] 0, .ptr [.i h, .i b] 0]) := by
  refine fn_walk 6 Tryz.call158 Tryz.func158 rfl (by decide) fun J => ?_
  simp (maxSteps := 4000000) only [go_sem, St.start, Tryz.ntmps158, Tryz.results158]
  repeat (first | refine walkL_seq ?_ | refine walkL_skip ?_ | refine walkL_block ?_ | (refine walkL_region fun K hK => ?_; simp (maxSteps := 4000000) only [go_sem]; refine hK _ ?_; clear hK K) | refine walkL_nil ?_ | refine walkL_ret ?_ | refine walkL_exit ?_ | refine blockA_here ?_ | refine blockA_other rfl ?_ | refine blockA_ret ?_ | refine blockA_normal ?_ | refine thenA_ret ?_ | refine thenA_exit ?_ | refine thenA_normal ?_)
  simp (maxSteps := 4000000) only [go_sem]
def okFl (s : Supply) (h b : Int) (f : Flight) : Bool := fitsB6 s h (wr (b + f.load)) && suffB s h (wr (b + f.load))
def nextItem (h b : Int) (f : Flight) : List DV := [.agg f.row, .agg [.i (wr (h + 1)), .i (wr (b + f.load))]]
def nextF (s : Supply) (fl : List Flight) (h b : Int) : List Flight := fl.filter (okFl s h b)
theorem iter195 (s : Supply) (L : List (List Int)) (H h : Nat) (b : Int) (hL : L.length ≤ 20) (hc : s.carr.length = L.length) (hr : ∀ r ∈ L, r.length = H) (hh : h < H) :
    Iter Tryz.prog 195 [.ptr [.ptr (hutRow s L H) 0, .any] 0, .ptr [.i h, .i b] 0] ((nextF s (flightsTo s.carr L h L.length) h b).map (nextItem h b)) := by
  have h90 := zf196 s L H h hL hc hr hh
  obtain ⟨hl0, hl1⟩ := flightsTo_len s.carr L h L.length
  obtain ⟨fl, hfl⟩ : ∃ fl, fl = flightsTo s.carr L h L.length := ⟨_, rfl⟩
  rw [← hfl] at h90 hl0 hl1 ⊢
  have hp : (2 : Nat) ^ L.length ≤ 2 ^ 20 := Nat.pow_le_pow_right (by decide) hL
  have h20 : (2 : Nat) ^ 20 = 1048576 := by decide
  have h91 := zf59 s L H h
  have h92 := zf197 s L H h
  obtain ⟨hut, hhut⟩ : ∃ hut, hut = hutRow s L H := ⟨_, rfl⟩
  rw [← hhut] at h90 h91 h92 ⊢
  obtain ⟨N, hN⟩ : ∃ N, N = nextF s fl h b := ⟨_, rfl⟩
  rw [← hN]
  refine iter_walk 48 Tryz.call195 Tryz.func195 rfl rfl fun l J B hS hG => ?_
  simp (maxSteps := 4000000) only [go_sem, St.start, Tryz.ntmps195]
  repeat (first | refine walkL_seq ?_ | refine walkL_skip ?_ | refine walkL_block ?_ | (refine walkL_region fun K hK => ?_; simp (maxSteps := 4000000) only [go_sem]; (repeat (first | (refine ⟨_, .lent (hf := h90) (hd := rfl) (hr := rfl), ?_⟩; simp (maxSteps := 4000000) only [go_sem]) | (refine ⟨_, .given (hf := h90) (hd := rfl) (ha := rfl), ?_⟩; simp (maxSteps := 4000000) only [go_sem]))); refine hK _ ?_; clear hK K) | refine walkL_nil ?_ | refine walkL_ret ?_ | refine walkL_exit ?_ | refine blockA_here ?_ | refine blockA_other rfl ?_ | refine blockA_ret ?_ | refine blockA_normal ?_ | refine thenA_ret ?_ | refine thenA_exit ?_ | refine thenA_normal ?_)
  refine walkL_loopK (fun (j : Nat) => [(13, .d (.i j))]) (fun _ => []) (fun k j => j ≤ fl.length ∧ ∃ kk, k = some kk ∧ kk ≤ N.length ∧ N.drop kk = nextF s (fl.drop j) h b) (fun j => fl.length - j) 0 ?_ ⟨Nat.zero_le _, 0, rfl, Nat.zero_le _, hN⟩ ?_
  · simp (maxSteps := 4000000) only [go_sem]
    refine weak_of [] ?_ ?_ rfl rfl <;> simp [lessT, lessM, lessB, AV.less]
  · rintro k j ⟨hj, kk, rfl, hkk, hd⟩
    simp (maxSteps := 4000000) only [go_sem]
    repeat (first | refine walkL_seq ?_ | refine walkL_skip ?_ | refine walkL_block ?_ | (refine walkL_region fun K hK => ?_; simp (maxSteps := 4000000) only [go_sem]; refine hK _ ?_; clear hK K) | refine walkL_nil ?_ | refine walkL_ret ?_ | refine walkL_exit ?_ | refine blockA_here ?_ | refine blockA_other rfl ?_ | refine blockA_ret ?_ | refine blockA_normal ?_ | refine thenA_ret ?_ | refine thenA_exit ?_ | refine thenA_normal ?_)
    refine walkL_cond rfl (fun hb => ?_) (fun hb => ?_)
    · have hlt : j < fl.length := by simpa [flRows_len] using hb
      obtain ⟨x, hx⟩ : ∃ x, fl[j]? = some x := ⟨_, List.getElem?_eq_getElem hlt⟩
      have gx : (flRows fl)[j]? = some [.i x.set, .i x.load, .i x.cost] := flRows_at hx
      have hw : IntKind.i64.wrap ((j : Int) + 1) = ((j + 1 : Nat) : Int) := by rw [wr_small (by omega)]; simp
      have e1 := h91 (wr (b + x.load))
      have e2 := h92 (wr (b + x.load))
      rw [drop_get hx, nextF, List.filter_cons, okFl] at hd
      repeat (first | refine walkL_seq ?_ | refine walkL_skip ?_ | refine walkL_block ?_ | (refine walkL_region fun K hK => ?_; simp (maxSteps := 4000000) only [go_sem, gx]; refine hK _ ?_; clear hK K) | refine walkL_nil ?_ | refine walkL_ret ?_ | refine walkL_exit ?_ | refine blockA_here ?_ | refine blockA_other rfl ?_ | refine blockA_ret ?_ | refine blockA_normal ?_ | refine thenA_ret ?_ | refine thenA_exit ?_ | refine thenA_normal ?_)
      refine walkL_regionY hS hG fun K hK => ?_
      cases q1 : fitsB6 s h (wr (b + x.load))
      · rw [q1] at e1 hd
        rw [Bool.false_and, if_neg (by decide)] at hd
        simp (maxSteps := 4000000) only [go_sem]
        refine ⟨_, .lent (hf := e1) (hd := rfl) (hr := rfl), ?_⟩
        simp (maxSteps := 4000000) only [go_sem]
        refine hK _ _ ?_
        clear hK K
        refine walkL_false rfl ?_
        repeat (first | refine walkL_seq ?_ | refine walkL_skip ?_ | refine walkL_block ?_ | (refine walkL_region fun K hK => ?_; simp (maxSteps := 4000000) only [go_sem, hw]; refine hK _ ?_; clear hK K) | refine walkL_nil ?_ | refine walkL_ret ?_ | refine walkL_exit ?_ | refine blockA_here ?_ | refine blockA_other rfl ?_ | refine blockA_ret ?_ | refine blockA_normal ?_ | refine thenA_ret ?_ | refine thenA_exit ?_ | refine thenA_normal ?_)
        refine ⟨j + 1, ?_, ⟨hlt, kk, rfl, hkk, hd⟩, by omega⟩
        refine weak_of [] ?_ ?_ rfl rfl <;> simp [lessT, lessM, lessB, AV.less]
      · rw [q1] at e1 hd
        simp (maxSteps := 4000000) only [go_sem]
        refine ⟨_, .lent (hf := e1) (hd := rfl) (hr := rfl), ?_⟩
        simp (maxSteps := 4000000) only [go_sem]
        refine ⟨_, .lent (hf := e2) (hd := rfl) (hr := rfl), ?_⟩
        cases q2 : suffB s h (wr (b + x.load))
        · rw [q2] at hd
          rw [Bool.and_false, if_neg (by decide)] at hd
          simp (maxSteps := 4000000) only [go_sem, q2]
          refine hK _ _ ?_
          clear hK K
          refine walkL_false rfl ?_
          repeat (first | refine walkL_seq ?_ | refine walkL_skip ?_ | refine walkL_block ?_ | (refine walkL_region fun K hK => ?_; simp (maxSteps := 4000000) only [go_sem, hw]; refine hK _ ?_; clear hK K) | refine walkL_nil ?_ | refine walkL_ret ?_ | refine walkL_exit ?_ | refine blockA_here ?_ | refine blockA_other rfl ?_ | refine blockA_ret ?_ | refine blockA_normal ?_ | refine thenA_ret ?_ | refine thenA_exit ?_ | refine thenA_normal ?_)
          refine ⟨j + 1, ?_, ⟨hlt, kk, rfl, hkk, hd⟩, by omega⟩
          refine weak_of [] ?_ ?_ rfl rfl <;> simp [lessT, lessM, lessB, AV.less]
        · rw [q2] at hd
          rw [Bool.and_self, if_pos rfl] at hd
          have hkl : kk < N.length := by
            rcases Nat.lt_or_ge kk N.length with h | h
            · exact h
            · rw [List.drop_eq_nil_of_le h] at hd; cases hd
          have hget : N[kk]? = some x := by
            have := congrArg (fun l => l[0]?) hd
            simpa using this
          have hd2 : N.drop (kk + 1) = nextF s (fl.drop (j + 1)) h b := by
            have := congrArg (List.drop 1) hd
            simpa [Nat.add_comm, nextF] using this
          simp (maxSteps := 4000000) only [go_sem, q2]
          refine ⟨rfl, kk, nextItem h b x, rfl, rfl, by rw [List.getElem?_map, hget]; rfl, ?_, ?_⟩
          · simp (maxSteps := 4000000) only [go_sem]
            refine hK _ _ ?_
            clear hK K
            refine walkL_false rfl ?_
            repeat (first | refine walkL_seq ?_ | refine walkL_skip ?_ | refine walkL_block ?_ | (refine walkL_region fun K hK => ?_; simp (maxSteps := 4000000) only [go_sem, hw]; refine hK _ ?_; clear hK K) | refine walkL_nil ?_ | refine walkL_ret ?_ | refine walkL_exit ?_ | refine blockA_here ?_ | refine blockA_other rfl ?_ | refine blockA_ret ?_ | refine blockA_normal ?_ | refine thenA_ret ?_ | refine thenA_exit ?_ | refine thenA_normal ?_)
            refine ⟨j + 1, ?_, ⟨hlt, kk + 1, rfl, hkl, hd2⟩, by omega⟩
            refine weak_of [] ?_ ?_ rfl rfl <;> simp [lessT, lessM, lessB, AV.less]
          · simp (maxSteps := 4000000) only [go_sem]
            refine hK _ _ ?_
            clear hK K
            refine walkL_true rfl ?_
            repeat (first | refine walkL_seq ?_ | refine walkL_skip ?_ | refine walkL_block ?_ | (refine walkL_region fun K hK => ?_; simp (maxSteps := 4000000) only [go_sem]; refine hK _ ?_; clear hK K) | refine walkL_nil ?_ | refine walkL_ret ?_ | refine walkL_exit ?_ | refine blockA_here ?_ | refine blockA_other rfl ?_ | refine blockA_ret ?_ | refine blockA_normal ?_ | refine thenA_ret ?_ | refine thenA_exit ?_ | refine thenA_normal ?_)
            exact ⟨trivial, .inr rfl⟩
    · have hnlt : ¬ j < fl.length := by simpa [flRows_len] using hb
      have he : j = fl.length := by omega
      subst he
      repeat (first | refine walkL_seq ?_ | refine walkL_skip ?_ | refine walkL_block ?_ | (refine walkL_region fun K hK => ?_; simp (maxSteps := 4000000) only [go_sem]; refine hK _ ?_; clear hK K) | refine walkL_nil ?_ | refine walkL_ret ?_ | refine walkL_exit ?_ | refine blockA_here ?_ | refine blockA_other rfl ?_ | refine blockA_ret ?_ | refine blockA_normal ?_ | refine thenA_ret ?_ | refine thenA_exit ?_ | refine thenA_normal ?_)
      refine ⟨trivial, .inl ?_⟩
      rw [List.drop_length, nextF, List.filter_nil, List.drop_eq_nil_iff] at hd
      simp only [List.length_map, Option.some.injEq]
      omega
end Go.Ab
namespace Go.Ab
open Go.RowKit Go.Proofs
set_option maxHeartbeats 16000000
set_option maxRecDepth 20000
attribute [local irreducible] WalkL Walk
structure Way where
  cost : Int
  fl : Flight
def wayD : Option Way → DV
  | none => .nilptr
  | some w => .ptr [.i w.cost, .i w.fl.set, .i w.fl.load, .i w.fl.cost] 0
abbrev Ent := (Int × Int) × Option Way × Nat
def memE (es : List Ent) : List (MK × DV × Nat) := es.map fun e => (.s [e.1.1, e.1.2], wayD e.2.1, e.2.2)
def lookE : List Ent → Int × Int → Nat → Option (Nat × Option Way × Nat)
  | [], _, _ => none
  | e :: es, k, i => if k = e.1 then some (i, e.2.1, e.2.2) else lookE es k (i + 1)
def putE : List Ent → Int × Int → Option Way → Nat → List Ent × Nat
  | [], k, w, c => ([(k, w, c)], c + 1)
  | e :: es, k, w, c => if k = e.1 then ((k, w, e.2.2) :: es, c) else (e :: (putE es k w c).1, (putE es k w c).2)
theorem key_eq (a b c d : Int) : (MK.s [a, b] = MK.s [c, d]) = ((a, b) = (c, d)) := by simp
theorem findE_mem : ∀ (es : List Ent) (k : Int × Int) (i : Nat), findE (memE es) (.s [k.1, k.2]) i = (lookE es k i).map fun p => (p.1, wayD p.2.1, p.2.2)
  | [], _, _ => rfl
  | e :: es, k, i => by
    have ih := findE_mem es k (i + 1)
    rw [memE, List.map_cons, findE, lookE]
    by_cases h : k = e.1
    · rw [if_pos h, if_pos (by rw [h])]; rfl
    · rw [if_neg h, if_neg (by rw [key_eq]; exact h)]; exact ih
theorem put_some : ∀ {es : List Ent} {k : Int × Int} {i : Nat} {j : Nat} {v : Option Way} {bn : Nat} (w : Option Way) (c : Nat), lookE es k i = some (j, v, bn) → i ≤ j ∧ putE es k w c = (es.set (j - i) (k, w, bn), c)
  | [], _, _, _, _, _, _, _, h => by simp [lookE] at h
  | e :: es, k, i, j, v, bn, w, c, h => by
    rw [lookE] at h
    rw [putE]
    by_cases hk : k = e.1
    · rw [if_pos hk] at h ⊢
      cases h
      exact ⟨Nat.le_refl _, by rw [Nat.sub_self]; rfl⟩
    · rw [if_neg hk] at h ⊢
      obtain ⟨h1, h2⟩ := put_some w c h
      refine ⟨by omega, ?_⟩
      rw [h2, show j - i = (j - (i + 1)) + 1 by omega]
      rfl
theorem put_none : ∀ {es : List Ent} {k : Int × Int} {i : Nat} (w : Option Way) (c : Nat), lookE es k i = none → putE es k w c = (es ++ [(k, w, c)], c + 1)
  | [], _, _, _, _, _ => rfl
  | e :: es, k, i, w, c, h => by
    rw [lookE] at h
    rw [putE]
    by_cases hk : k = e.1
    · rw [if_pos hk] at h; cases h
    · rw [if_neg hk] at h ⊢
      rw [put_none w c h]
      rfl
theorem look_put : ∀ (es : List Ent) (k : Int × Int) (w : Option Way) (c i : Nat), ∃ j bn, lookE (putE es k w c).1 k i = some (j, w, bn)
  | [], k, w, c, i => ⟨i, c, by simp [putE, lookE]⟩
  | e :: es, k, w, c, i => by
    rw [putE]
    by_cases hk : k = e.1
    · rw [if_pos hk]; exact ⟨i, e.2.2, by simp [lookE]⟩
    · rw [if_neg hk]
      obtain ⟨j, bn, h⟩ := look_put es k w c (i + 1)
      exact ⟨j, bn, by simp only [lookE, if_neg hk]; exact h⟩
theorem memE_set (es : List Ent) (j : Nat) (a b : Int) (w : Option Way) (bn : Nat) : memE (es.set j ((a, b), w, bn)) = (memE es).set j (.s [a, b], wayD w, bn) := by simp [memE, List.map_set]
theorem memE_push (es : List Ent) (a b : Int) (w : Option Way) (bn : Nat) : memE (es ++ [((a, b), w, bn)]) = memE es ++ [(.s [a, b], wayD w, bn)] := by simp [memE]
def better (best : Option Way) (f : Flight) : Option Way → Option Way
  | none => best
  | some w => match best with
    | none => some ⟨wr (f.cost + w.cost), f⟩
    | some v => if wr (f.cost + w.cost) < v.cost then some ⟨wr (f.cost + w.cost), f⟩ else best
def doneW : Option Way := some ⟨0, ⟨0, 0, 0⟩⟩
def findM (s : Supply) (L : List (List Int)) (H : Nat) : Nat → Int → List Ent × Nat → Option Way × (List Ent × Nat)
  | 0, b, m => (doneW, putE m.1 ((H : Int), b) doneW m.2)
  | n + 1, b, m => match lookE m.1 (((H - (n + 1) : Nat) : Int), b) 0 with
    | some (_, v, _) => (v, m)
    | none => (((nextF s (flightsTo s.carr L (H - (n + 1)) L.length) ((H - (n + 1) : Nat) : Int) b).foldl (fun a f => (better a.1 f (findM s L H n (wr (b + f.load)) a.2).1, (findM s L H n (wr (b + f.load)) a.2).2)) (none, m)).1,
      putE ((nextF s (flightsTo s.carr L (H - (n + 1)) L.length) ((H - (n + 1) : Nat) : Int) b).foldl (fun a f => (better a.1 f (findM s L H n (wr (b + f.load)) a.2).1, (findM s L H n (wr (b + f.load)) a.2).2)) (none, m)).2.1 (((H - (n + 1) : Nat) : Int), b)
        ((nextF s (flightsTo s.carr L (H - (n + 1)) L.length) ((H - (n + 1) : Nat) : Int) b).foldl (fun a f => (better a.1 f (findM s L H n (wr (b + f.load)) a.2).1, (findM s L H n (wr (b + f.load)) a.2).2)) (none, m)).1
        ((nextF s (flightsTo s.carr L (H - (n + 1)) L.length) ((H - (n + 1) : Nat) : Int) b).foldl (fun a f => (better a.1 f (findM s L H n (wr (b + f.load)) a.2).1, (findM s L H n (wr (b + f.load)) a.2).2)) (none, m)).2.2)
theorem zf116 (s : Supply) (L : List (List Int)) (H : Nat) (hL : L.length ≤ 20) (hc : s.carr.length = L.length) (hr : ∀ r ∈ L, r.length = H) (hH : H ≤ 48) : ∀ (n : Nat), n ≤ H → ∀ (b : Int) (m : List Ent × Nat),
    FnG Tryz.prog 116 [.mp (some 2) (memE m.1) m.2] [0] [.agg [.d (.ptr (hutRow s L H) 0), .mp 0], .d (.agg [.i ((H - n : Nat) : Int), .i b])] (.d (wayD (findM s L H n b m).1))
      [.mp (some 2) (memE (findM s L H n b m).2.1) (findM s L H n b m).2.2]
  | 0, _, b, m => by
    obtain ⟨es, c⟩ := m
    rw [findM]
    dsimp only
    have hq : ((H : Int) == (H : Int)) = true := by simp
    have e1 := findE_mem es ((H : Int), b) 0
    dsimp only at e1
    obtain ⟨j2, bn2, e2⟩ := look_put es ((H : Int), b) doneW c 0
    have e3 := findE_mem (putE es ((H : Int), b) doneW c).1 ((H : Int), b) 0
    rw [e2] at e3
    dsimp only [Option.map_some] at e3
    cases hlk : lookE es ((H : Int), b) 0 with
    | none =>
      rw [hlk] at e1
      have e4 := put_none (i := 0) doneW c hlk
      rw [e4] at e3 ⊢
      rw [memE_push] at e3
      dsimp only at e1 e3 ⊢
      rw [memE_push]
      dsimp only [Option.map_none] at e1
      have hd : wayD doneW = .ptr [.i 0, .i 0, .i 0, .i 0] 0 := rfl
      rw [hd] at e3 ⊢
      refine fnG_walk 80 Tryz.call116 Tryz.func116 rfl (by decide) [] [(0, 0)] (by simp only [List.length_cons, List.length_nil]; decide) (by kernel_rfl) fun J => ?_
      simp (maxSteps := 4000000) only [go_sem, St.startG, Tryz.ntmps116, Tryz.results116, List.map_cons, List.map_nil, List.range_succ,  hutRow]
      repeat (first | refine walkL_seq ?_ | refine walkL_skip ?_ | refine walkL_block ?_ | (refine walkL_region fun K hK => ?_; simp (maxSteps := 4000000) only [go_sem]; refine hK _ ?_; clear hK K) | refine walkL_nil ?_ | refine walkL_ret ?_ | refine walkL_exit ?_ | refine blockA_here ?_ | refine blockA_other rfl ?_ | refine blockA_ret ?_ | refine blockA_normal ?_ | refine thenA_ret ?_ | refine thenA_exit ?_ | refine thenA_normal ?_)
      refine walkL_drawn (by kernel_rfl) (by kernel_rfl) fun K hK => ?_
      simp (maxSteps := 4000000) only [go_sem, Nat.sub_zero, hq]
      refine ⟨by kernel_rfl, hK _ ?_⟩
      clear hK K
      refine walkL_true rfl ?_
      repeat (first | refine walkL_seq ?_ | refine walkL_skip ?_ | refine walkL_block ?_ | (refine walkL_region fun K hK => ?_; simp (maxSteps := 4000000) only [go_sem, e1, e3, Nat.sub_zero]; refine hK _ ?_; clear hK K) | refine walkL_nil ?_ | refine walkL_ret ?_ | refine walkL_exit ?_ | refine blockA_here ?_ | refine blockA_other rfl ?_ | refine blockA_ret ?_ | refine blockA_normal ?_ | refine thenA_ret ?_ | refine thenA_exit ?_ | refine thenA_normal ?_)
      simp (maxSteps := 4000000) only [go_sem]
    | some p =>
      obtain ⟨j, v, bn⟩ := p
      rw [hlk] at e1
      have e4 := (put_some (i := 0) doneW c hlk).2
      rw [Nat.sub_zero] at e4
      rw [e4] at e3 ⊢
      rw [memE_set] at e3
      dsimp only [Option.map_some] at e1 e3 ⊢
      rw [memE_set]
      have hd : wayD doneW = .ptr [.i 0, .i 0, .i 0, .i 0] 0 := rfl
      rw [hd] at e3 ⊢
      refine fnG_walk 80 Tryz.call116 Tryz.func116 rfl (by decide) [] [(0, 0)] (by simp only [List.length_cons, List.length_nil]; decide) (by kernel_rfl) fun J => ?_
      simp (maxSteps := 4000000) only [go_sem, St.startG, Tryz.ntmps116, Tryz.results116, List.map_cons, List.map_nil, List.range_succ,  hutRow]
      repeat (first | refine walkL_seq ?_ | refine walkL_skip ?_ | refine walkL_block ?_ | (refine walkL_region fun K hK => ?_; simp (maxSteps := 4000000) only [go_sem]; refine hK _ ?_; clear hK K) | refine walkL_nil ?_ | refine walkL_ret ?_ | refine walkL_exit ?_ | refine blockA_here ?_ | refine blockA_other rfl ?_ | refine blockA_ret ?_ | refine blockA_normal ?_ | refine thenA_ret ?_ | refine thenA_exit ?_ | refine thenA_normal ?_)
      refine walkL_drawn (by kernel_rfl) (by kernel_rfl) fun K hK => ?_
      simp (maxSteps := 4000000) only [go_sem, Nat.sub_zero, hq]
      refine ⟨by kernel_rfl, hK _ ?_⟩
      clear hK K
      refine walkL_true rfl ?_
      repeat (first | refine walkL_seq ?_ | refine walkL_skip ?_ | refine walkL_block ?_ | (refine walkL_region fun K hK => ?_; simp (maxSteps := 4000000) only [go_sem, e1, e3, Nat.sub_zero]; refine hK _ ?_; clear hK K) | refine walkL_nil ?_ | refine walkL_ret ?_ | refine walkL_exit ?_ | refine blockA_here ?_ | refine blockA_other rfl ?_ | refine blockA_ret ?_ | refine blockA_normal ?_ | refine thenA_ret ?_ | refine thenA_exit ?_ | refine thenA_normal ?_)
      simp (maxSteps := 4000000) only [go_sem]
  | n + 1, hn, b, m => by
    obtain ⟨es, c⟩ := m
    have ih := zf116 s L H hL hc hr hH n (by omega)
    obtain ⟨h, hh⟩ : ∃ h, h = H - (n + 1) := ⟨_, rfl⟩
    have hhH : h < H := by omega
    have hn' : H - n = h + 1 := by omega
    rw [hn'] at ih
    simp only [hutRow] at ih
    rw [findM, ← hh]
    have hq : ((h : Int) == (H : Int)) = false := by simp; omega
    have e1 := findE_mem es ((h : Int), b) 0
    dsimp only at e1 ⊢
    cases hlk : lookE es ((h : Int), b) 0 with
    | some p =>
      obtain ⟨j, v, bn⟩ := p
      rw [hlk] at e1
      dsimp only [Option.map_some] at e1 ⊢
      refine fnG_walk 80 Tryz.call116 Tryz.func116 rfl (by decide) [] [(0, 0)] (by simp only [List.length_cons, List.length_nil]; decide) (by kernel_rfl) fun J => ?_
      simp (maxSteps := 4000000) only [go_sem, St.startG, Tryz.ntmps116, Tryz.results116, List.map_cons, List.map_nil, List.range_succ,  hutRow]
      repeat (first | refine walkL_seq ?_ | refine walkL_skip ?_ | refine walkL_block ?_ | (refine walkL_region fun K hK => ?_; simp (maxSteps := 4000000) only [go_sem]; refine hK _ ?_; clear hK K) | refine walkL_nil ?_ | refine walkL_ret ?_ | refine walkL_exit ?_ | refine blockA_here ?_ | refine blockA_other rfl ?_ | refine blockA_ret ?_ | refine blockA_normal ?_ | refine thenA_ret ?_ | refine thenA_exit ?_ | refine thenA_normal ?_)
      refine walkL_drawn (by kernel_rfl) (by kernel_rfl) fun K hK => ?_
      simp (maxSteps := 4000000) only [go_sem, hq]
      refine ⟨by kernel_rfl, hK _ ?_⟩
      clear hK K
      refine walkL_false rfl ?_
      repeat (first | refine walkL_seq ?_ | refine walkL_skip ?_ | refine walkL_block ?_ | (refine walkL_region fun K hK => ?_; simp (maxSteps := 4000000) only [go_sem, e1]; refine hK _ ?_; clear hK K) | refine walkL_nil ?_ | refine walkL_ret ?_ | refine walkL_exit ?_ | refine blockA_here ?_ | refine blockA_other rfl ?_ | refine blockA_ret ?_ | refine blockA_normal ?_ | refine thenA_ret ?_ | refine thenA_exit ?_ | refine thenA_normal ?_)
      refine walkL_true rfl ?_
      repeat (first | refine walkL_seq ?_ | refine walkL_skip ?_ | refine walkL_block ?_ | (refine walkL_region fun K hK => ?_; simp (maxSteps := 4000000) only [go_sem]; refine hK _ ?_; clear hK K) | refine walkL_nil ?_ | refine walkL_ret ?_ | refine walkL_exit ?_ | refine blockA_here ?_ | refine blockA_other rfl ?_ | refine blockA_ret ?_ | refine blockA_normal ?_ | refine thenA_ret ?_ | refine thenA_exit ?_ | refine thenA_normal ?_)
      simp (maxSteps := 4000000) only [go_sem]
    | none =>
      rw [hlk] at e1
      dsimp only [Option.map_none] at e1 ⊢
      obtain ⟨stp, hstp⟩ : ∃ stp, stp = fun (a : Option Way × (List Ent × Nat)) (f : Flight) => (better a.1 f (findM s L H n (wr (b + f.load)) a.2).1, (findM s L H n (wr (b + f.load)) a.2).2) := ⟨_, rfl⟩
      rw [← hstp]
      have hit := iter195 s L H h b hL hc hr hhH
      obtain ⟨N, hN⟩ : ∃ N, N = nextF s (flightsTo s.carr L h L.length) h b := ⟨_, rfl⟩
      rw [← hN] at hit ⊢
      rw [hutRow] at hit
      refine fnG_walk 80 Tryz.call116 Tryz.func116 rfl (by decide) [] [(0, 0)] (by simp only [List.length_cons, List.length_nil]; decide) (by kernel_rfl) fun J => ?_
      simp (maxSteps := 4000000) only [go_sem, St.startG, Tryz.ntmps116, Tryz.results116, List.map_cons, List.map_nil, List.range_succ,  hutRow]
      repeat (first | refine walkL_seq ?_ | refine walkL_skip ?_ | refine walkL_block ?_ | (refine walkL_region fun K hK => ?_; simp (maxSteps := 4000000) only [go_sem]; refine hK _ ?_; clear hK K) | refine walkL_nil ?_ | refine walkL_ret ?_ | refine walkL_exit ?_ | refine blockA_here ?_ | refine blockA_other rfl ?_ | refine blockA_ret ?_ | refine blockA_normal ?_ | refine thenA_ret ?_ | refine thenA_exit ?_ | refine thenA_normal ?_)
      refine walkL_drawn (by kernel_rfl) (by kernel_rfl) fun K hK => ?_
      simp (maxSteps := 4000000) only [go_sem, hq]
      refine ⟨by kernel_rfl, hK _ ?_⟩
      clear hK K
      refine walkL_false rfl ?_
      repeat (first | refine walkL_seq ?_ | refine walkL_skip ?_ | refine walkL_block ?_ | (refine walkL_region fun K hK => ?_; simp (maxSteps := 4000000) only [go_sem, e1]; refine hK _ ?_; clear hK K) | refine walkL_nil ?_ | refine walkL_ret ?_ | refine walkL_exit ?_ | refine blockA_here ?_ | refine blockA_other rfl ?_ | refine blockA_ret ?_ | refine blockA_normal ?_ | refine thenA_ret ?_ | refine thenA_exit ?_ | refine thenA_normal ?_)
      refine walkL_false rfl ?_
      repeat (first | refine walkL_seq ?_ | refine walkL_skip ?_ | refine walkL_block ?_ | (refine walkL_region fun K hK => ?_; simp (maxSteps := 4000000) only [go_sem]; refine hK _ ?_; clear hK K) | refine walkL_nil ?_ | refine walkL_ret ?_ | refine walkL_exit ?_ | refine blockA_here ?_ | refine blockA_other rfl ?_ | refine blockA_ret ?_ | refine blockA_normal ?_ | refine thenA_ret ?_ | refine thenA_exit ?_ | refine thenA_normal ?_)
      refine walkL_region fun K hK => ?_
      simp (maxSteps := 4000000) only [go_sem]
      refine ⟨_, .veiled (hd := rfl) (hf := zf158 _ _ _), ?_⟩
      simp (maxSteps := 4000000) only [go_sem]
      refine hK _ ?_
      clear hK K
      repeat (first | refine walkL_seq ?_ | refine walkL_skip ?_ | refine walkL_block ?_ | (refine walkL_region fun K hK => ?_; simp (maxSteps := 4000000) only [go_sem]; refine hK _ ?_; clear hK K) | refine walkL_nil ?_ | refine walkL_ret ?_ | refine walkL_exit ?_ | refine blockA_here ?_ | refine blockA_other rfl ?_ | refine blockA_ret ?_ | refine blockA_normal ?_ | refine thenA_ret ?_ | refine thenA_exit ?_ | refine thenA_normal ?_)
      refine walkL_rangeS (g := .tmp 39) rfl hit (by intro row hr; obtain ⟨w, _, rfl⟩ := List.mem_map.1 hr; rfl) (fun _ => []) (fun (a : Option Way × (List Ent × Nat)) => [(7, some (.box [.d (wayD a.1)])), (80, some (.mp (some 2) (memE a.2.1) a.2.2))])
        (fun i a => a = (N.take i).foldl stp (none, (es, c))) (fun _ _ => False) (none, (es, c)) ?_ rfl ?_ ?_ (fun _ _ h => h.elim)
      · simp (maxSteps := 4000000) only [go_sem, wayD]
        refine weak_of [] ?_ ?_ rfl rfl <;> simp [lessT, lessM, lessB, AV.less]
        all_goals first | done | rfl | trace_state
      · rintro i ⟨best, es1, c1⟩ row hi ha l2 m2
        rw [List.getElem?_map, Option.map_eq_some_iff] at hi
        obtain ⟨f, hf, rfl⟩ := hi
        have ihf := ih (wr (b + f.load)) (es1, c1)
        obtain ⟨w, es2, c2, hx⟩ : ∃ w es2 c2, findM s L H n (wr (b + f.load)) (es1, c1) = (w, es2, c2) := ⟨_, _, _, rfl⟩
        rw [hx] at ihf
        dsimp only at ihf
        have hnext : (N.take (i + 1)).foldl stp (none, (es, c)) = (better best f w, (es2, c2)) := by
          rw [foldl_take_succ _ _ _ _ _ hf, ← ha, hstp]
          dsimp only
          rw [hx]
        have hw1 : wr ((h : Int) + 1) = ((h + 1 : Nat) : Int) := by rw [wr, wr_small (by omega)]; simp
        simp only [nextItem, hw1, Flight.row]
        simp (maxSteps := 4000000) only [go_sem]
        repeat (first | refine walkL_seq ?_ | refine walkL_skip ?_ | refine walkL_block ?_ | (refine walkL_region fun K hK => ?_; simp (maxSteps := 4000000) only [go_sem]; refine hK _ ?_; clear hK K) | refine walkL_nil ?_ | refine walkL_ret ?_ | refine walkL_exit ?_ | refine blockA_here ?_ | refine blockA_other rfl ?_ | refine blockA_ret ?_ | refine blockA_normal ?_ | refine thenA_ret ?_ | refine thenA_exit ?_ | refine thenA_normal ?_)
        refine walkL_region fun K hK => ?_
        simp (maxSteps := 4000000) only [go_sem]
        refine ⟨_, .inPlace (n := 80) (hf := ihf) (hn := rfl) (hb := rfl) (hla := rfl) (ha := argG_all (by repeat (first | exact trivial | refine And.intro ?_ ?_ | exact argG_ren rfl | exact argG_deep rfl rfl))), ?_⟩
        simp (maxSteps := 4000000) only [go_sem]
        refine hK _ ?_
        clear hK K
        cases w with
        | none =>
          simp (maxSteps := 4000000) only [go_sem, wayD]
          repeat (first | refine walkL_seq ?_ | refine walkL_skip ?_ | refine walkL_block ?_ | (refine walkL_region fun K hK => ?_; simp (maxSteps := 4000000) only [go_sem]; refine hK _ ?_; clear hK K) | refine walkL_nil ?_ | refine walkL_ret ?_ | refine walkL_exit ?_ | refine blockA_here ?_ | refine blockA_other rfl ?_ | refine blockA_ret ?_ | refine blockA_normal ?_ | refine thenA_ret ?_ | refine thenA_exit ?_ | refine thenA_normal ?_)
          refine walkL_drawn (by kernel_rfl) (by kernel_rfl) fun K hK => ?_
          simp (maxSteps := 4000000) only [go_sem]
          refine ⟨by kernel_rfl, hK _ ?_⟩
          clear hK K
          refine walkL_false rfl ?_
          repeat (first | refine walkL_seq ?_ | refine walkL_skip ?_ | refine walkL_block ?_ | (refine walkL_region fun K hK => ?_; simp (maxSteps := 4000000) only [go_sem]; refine hK _ ?_; clear hK K) | refine walkL_nil ?_ | refine walkL_ret ?_ | refine walkL_exit ?_ | refine blockA_here ?_ | refine blockA_other rfl ?_ | refine blockA_ret ?_ | refine blockA_normal ?_ | refine thenA_ret ?_ | refine thenA_exit ?_ | refine thenA_normal ?_)
          refine ⟨rfl, (best, (es2, c2)), ?_, by rw [hnext]; rfl⟩
          simp (maxSteps := 4000000) only [go_sem]
          refine weak_of [] ?_ ?_ rfl rfl <;> simp [lessT, lessM, lessB, AV.less]
          all_goals first | done | rfl | trace_state
        | some w =>
          cases best with
          | none =>
            simp (maxSteps := 4000000) only [go_sem, wayD]
            repeat (first | refine walkL_seq ?_ | refine walkL_skip ?_ | refine walkL_block ?_ | (refine walkL_region fun K hK => ?_; simp (maxSteps := 4000000) only [go_sem]; refine hK _ ?_; clear hK K) | refine walkL_nil ?_ | refine walkL_ret ?_ | refine walkL_exit ?_ | refine blockA_here ?_ | refine blockA_other rfl ?_ | refine blockA_ret ?_ | refine blockA_normal ?_ | refine thenA_ret ?_ | refine thenA_exit ?_ | refine thenA_normal ?_)
            refine walkL_drawn (by kernel_rfl) (by kernel_rfl) fun K hK => ?_
            simp (maxSteps := 4000000) only [go_sem]
            refine ⟨by kernel_rfl, hK _ ?_⟩
            clear hK K
            refine walkL_post ?_
            refine walkL_true rfl ?_
            repeat (first | refine walkL_seq ?_ | refine walkL_skip ?_ | refine walkL_block ?_ | (refine walkL_region fun K hK => ?_; simp (maxSteps := 4000000) only [go_sem]; refine hK _ ?_; clear hK K) | refine walkL_nil ?_ | refine walkL_ret ?_ | refine walkL_exit ?_ | refine blockA_here ?_ | refine blockA_other rfl ?_ | refine blockA_ret ?_ | refine blockA_normal ?_ | refine thenA_ret ?_ | refine thenA_exit ?_ | refine thenA_normal ?_)
            refine walkL_drawn (by kernel_rfl) (by kernel_rfl) fun K hK => ?_
            simp (maxSteps := 4000000) only [go_sem]
            refine ⟨by kernel_rfl, hK _ ?_⟩
            clear hK K
            repeat (first | refine walkL_seq ?_ | refine walkL_skip ?_ | refine walkL_nil ?_ | refine walkL_ret ?_ | refine walkL_exit ?_ | refine blockA_here ?_ | refine blockA_other rfl ?_ | refine blockA_ret ?_ | refine blockA_normal ?_ | refine thenA_ret ?_ | refine thenA_exit ?_ | refine thenA_normal ?_)
            refine ⟨_, weak_release [74] _, ?_⟩
            simp (maxSteps := 4000000) only [go_sem]
            repeat (first | refine walkL_seq ?_ | refine walkL_skip ?_ | refine walkL_nil ?_ | refine walkL_ret ?_ | refine walkL_exit ?_ | refine blockA_here ?_ | refine blockA_other rfl ?_ | refine blockA_ret ?_ | refine blockA_normal ?_ | refine thenA_ret ?_ | refine thenA_exit ?_ | refine thenA_normal ?_)
            refine ⟨rfl, (some ⟨wr (f.cost + w.cost), f⟩, (es2, c2)), ?_, by rw [hnext]; rfl⟩
            simp (maxSteps := 4000000) only [go_sem, wayD]
            refine weak_of [] ?_ ?_ rfl rfl <;> simp [lessT, lessM, lessB, AV.less]
            all_goals first | done | rfl | trace_state
          | some v =>
            by_cases hlt : wr (f.cost + w.cost) < v.cost
            · have hd : decide (wr (f.cost + w.cost) < v.cost) = true := decide_eq_true hlt
              simp (maxSteps := 4000000) only [go_sem, wayD]
              repeat (first | refine walkL_seq ?_ | refine walkL_skip ?_ | refine walkL_block ?_ | (refine walkL_region fun K hK => ?_; simp (maxSteps := 4000000) only [go_sem]; refine hK _ ?_; clear hK K) | refine walkL_nil ?_ | refine walkL_ret ?_ | refine walkL_exit ?_ | refine blockA_here ?_ | refine blockA_other rfl ?_ | refine blockA_ret ?_ | refine blockA_normal ?_ | refine thenA_ret ?_ | refine thenA_exit ?_ | refine thenA_normal ?_)
              refine walkL_drawn (by kernel_rfl) (by kernel_rfl) fun K hK => ?_
              simp (maxSteps := 4000000) only [go_sem, hd]
              refine ⟨by kernel_rfl, hK _ ?_⟩
              clear hK K
              refine walkL_post ?_
              refine walkL_true rfl ?_
              repeat (first | refine walkL_seq ?_ | refine walkL_skip ?_ | refine walkL_block ?_ | (refine walkL_region fun K hK => ?_; simp (maxSteps := 4000000) only [go_sem]; refine hK _ ?_; clear hK K) | refine walkL_nil ?_ | refine walkL_ret ?_ | refine walkL_exit ?_ | refine blockA_here ?_ | refine blockA_other rfl ?_ | refine blockA_ret ?_ | refine blockA_normal ?_ | refine thenA_ret ?_ | refine thenA_exit ?_ | refine thenA_normal ?_)
              refine walkL_drawn (by kernel_rfl) (by kernel_rfl) fun K hK => ?_
              simp (maxSteps := 4000000) only [go_sem]
              refine ⟨by kernel_rfl, hK _ ?_⟩
              clear hK K
              repeat (first | refine walkL_seq ?_ | refine walkL_skip ?_ | refine walkL_nil ?_ | refine walkL_ret ?_ | refine walkL_exit ?_ | refine blockA_here ?_ | refine blockA_other rfl ?_ | refine blockA_ret ?_ | refine blockA_normal ?_ | refine thenA_ret ?_ | refine thenA_exit ?_ | refine thenA_normal ?_)
              refine ⟨_, weak_release [74] _, ?_⟩
              simp (maxSteps := 4000000) only [go_sem]
              repeat (first | refine walkL_seq ?_ | refine walkL_skip ?_ | refine walkL_nil ?_ | refine walkL_ret ?_ | refine walkL_exit ?_ | refine blockA_here ?_ | refine blockA_other rfl ?_ | refine blockA_ret ?_ | refine blockA_normal ?_ | refine thenA_ret ?_ | refine thenA_exit ?_ | refine thenA_normal ?_)
              have hbe : better (some v) f (some w) = some ⟨wr (f.cost + w.cost), f⟩ := by simp only [better, if_pos hlt]
              refine ⟨rfl, (some ⟨wr (f.cost + w.cost), f⟩, (es2, c2)), ?_, by rw [hnext, hbe]⟩
              simp (maxSteps := 4000000) only [go_sem, wayD]
              refine weak_of [] ?_ ?_ rfl rfl <;> simp [lessT, lessM, lessB, AV.less]
              all_goals first | done | rfl | trace_state
            · have hd : decide (wr (f.cost + w.cost) < v.cost) = false := decide_eq_false hlt
              have hbe : better (some v) f (some w) = some v := by simp only [better, if_neg hlt]
              simp (maxSteps := 4000000) only [go_sem, wayD]
              repeat (first | refine walkL_seq ?_ | refine walkL_skip ?_ | refine walkL_block ?_ | (refine walkL_region fun K hK => ?_; simp (maxSteps := 4000000) only [go_sem]; refine hK _ ?_; clear hK K) | refine walkL_nil ?_ | refine walkL_ret ?_ | refine walkL_exit ?_ | refine blockA_here ?_ | refine blockA_other rfl ?_ | refine blockA_ret ?_ | refine blockA_normal ?_ | refine thenA_ret ?_ | refine thenA_exit ?_ | refine thenA_normal ?_)
              refine walkL_drawn (by kernel_rfl) (by kernel_rfl) fun K hK => ?_
              simp (maxSteps := 4000000) only [go_sem, hd]
              refine ⟨by kernel_rfl, hK _ ?_⟩
              clear hK K
              refine walkL_false rfl ?_
              repeat (first | refine walkL_seq ?_ | refine walkL_skip ?_ | refine walkL_block ?_ | (refine walkL_region fun K hK => ?_; simp (maxSteps := 4000000) only [go_sem]; refine hK _ ?_; clear hK K) | refine walkL_nil ?_ | refine walkL_ret ?_ | refine walkL_exit ?_ | refine blockA_here ?_ | refine blockA_other rfl ?_ | refine blockA_ret ?_ | refine blockA_normal ?_ | refine thenA_ret ?_ | refine thenA_exit ?_ | refine thenA_normal ?_)
              refine ⟨rfl, (some v, (es2, c2)), ?_, by rw [hnext, hbe]⟩
              simp (maxSteps := 4000000) only [go_sem, wayD]
              refine weak_of [] ?_ ?_ rfl rfl <;> simp [lessT, lessM, lessB, AV.less]
              all_goals first | done | rfl | trace_state
      · rintro ⟨best, es1, c1⟩ ha
        rw [List.length_map, List.take_length] at ha
        rw [← ha]
        dsimp only
        have e5 := findE_mem es1 ((h : Int), b) 0
        dsimp only at e5
        cases hlk2 : lookE es1 ((h : Int), b) 0 with
        | none =>
          rw [hlk2] at e5
          dsimp only [Option.map_none] at e5
          rw [put_none (i := 0) best c1 hlk2]
          dsimp only
          rw [memE_push]
          obtain ⟨bd, hbd⟩ : ∃ bd, bd = wayD best := ⟨_, rfl⟩
          simp (maxSteps := 4000000) only [go_sem]
          repeat (first | refine walkL_seq ?_ | refine walkL_skip ?_ | refine walkL_block ?_ | (refine walkL_region fun K hK => ?_; simp (maxSteps := 4000000) only [go_sem, e5]; refine hK _ ?_; clear hK K) | refine walkL_nil ?_ | refine walkL_ret ?_ | refine walkL_exit ?_ | refine blockA_here ?_ | refine blockA_other rfl ?_ | refine blockA_ret ?_ | refine blockA_normal ?_ | refine thenA_ret ?_ | refine thenA_exit ?_ | refine thenA_normal ?_)
          simp (maxSteps := 4000000) only [go_sem]
        | some p =>
          obtain ⟨j, v, bn⟩ := p
          rw [hlk2] at e5
          dsimp only [Option.map_some] at e5
          have e4 := (put_some (i := 0) best c1 hlk2).2
          rw [Nat.sub_zero] at e4
          rw [e4]
          dsimp only
          rw [memE_set]
          simp (maxSteps := 4000000) only [go_sem]
          repeat (first | refine walkL_seq ?_ | refine walkL_skip ?_ | refine walkL_block ?_ | (refine walkL_region fun K hK => ?_; simp (maxSteps := 4000000) only [go_sem, e5]; refine hK _ ?_; clear hK K) | refine walkL_nil ?_ | refine walkL_ret ?_ | refine walkL_exit ?_ | refine blockA_here ?_ | refine blockA_other rfl ?_ | refine blockA_ret ?_ | refine blockA_normal ?_ | refine thenA_ret ?_ | refine thenA_exit ?_ | refine thenA_normal ?_)
          simp (maxSteps := 4000000) only [go_sem]
end Go.Ab
namespace Go.Ab
open Go.RowKit Go.Proofs
def lookW (es : List Ent) (k : Int × Int) : Option (Option Way) := (lookE es k 0).map (·.2.1)
theorem lookE_idx : ∀ (es : List Ent) (k : Int × Int) (i j : Nat), (lookE es k i).map (·.2.1) = (lookE es k j).map (·.2.1)
  | [], _, _, _ => rfl
  | e :: es, k, i, j => by
    rw [lookE, lookE]
    split
    · rfl
    · exact lookE_idx es k _ _
theorem lookW_cons (e : Ent) (es : List Ent) (k : Int × Int) : lookW (e :: es) k = if k = e.1 then some e.2.1 else lookW es k := by
  rw [lookW, lookE]
  split
  · rfl
  · exact lookE_idx es k _ _
theorem lookW_put : ∀ (es : List Ent) (k k' : Int × Int) (w : Option Way) (c : Nat), lookW (putE es k w c).1 k' = if k' = k then some w else lookW es k'
  | [], k, k', w, c => by
    rw [putE, lookW_cons]
  | e :: es, k, k', w, c => by
    rw [putE]
    by_cases hk : k = e.1
    · rw [if_pos hk]
      dsimp only
      rw [lookW_cons, lookW_cons]
      by_cases h1 : k' = k
      · rw [if_pos h1, if_pos h1]
      · rw [if_neg h1, if_neg h1, if_neg (by rw [← hk]; exact h1)]
    · rw [if_neg hk]
      dsimp only
      rw [lookW_cons, lookW_cons, lookW_put es k k' w c]
      by_cases h1 : k' = k
      · rw [if_pos h1, if_pos h1, if_neg (by rw [h1]; exact hk)]
      · rw [if_neg h1, if_neg h1]
structure GoodM (H : Nat) (es : List Ent) : Prop where
  done : ∀ b v, lookW es ((H : Int), b) = some v → v = doneW
  next : ∀ (h : Nat) b w, h < H → lookW es ((h : Int), b) = some (some w) → ∃ w', lookW es (((h + 1 : Nat) : Int), wr (b + w.fl.load)) = some (some w')
theorem find_good (s : Supply) (L : List (List Int)) (H : Nat) : ∀ (n : Nat), n ≤ H → ∀ (b : Int) (m : List Ent × Nat), GoodM H m.1 →
    GoodM H (findM s L H n b m).2.1 ∧ (∀ k v, lookW m.1 k = some v → lookW (findM s L H n b m).2.1 k = some v) ∧ (∀ k, k.1 < ((H - n : Nat) : Int) → lookW (findM s L H n b m).2.1 k = lookW m.1 k) ∧
      lookW (findM s L H n b m).2.1 (((H - n : Nat) : Int), b) = some (findM s L H n b m).1
  | 0, _, b, m, hg => by
    rw [findM]
    dsimp only
    rw [Nat.sub_zero]
    refine ⟨⟨fun b' v h => ?_, fun h b' w hh hl => ?_⟩, fun k v h => ?_, fun k hk => ?_, by rw [lookW_put, if_pos rfl]⟩
    · rw [lookW_put] at h
      split at h
      · exact (Option.some.inj h).symm
      · exact hg.done b' v h
    · rw [lookW_put, if_neg (by intro he; have := congrArg Prod.fst he; dsimp only at this; omega)] at hl
      obtain ⟨w', hw⟩ := hg.next h b' w hh hl
      rw [lookW_put]
      split
      · exact ⟨_, rfl⟩
      · exact ⟨w', hw⟩
    · rw [lookW_put]
      split
      · rename_i he
        rw [he] at h
        rw [hg.done b v h]
      · exact h
    · rw [lookW_put, if_neg]
      intro he
      rw [he] at hk
      exact absurd hk (by dsimp only; omega)
  | n + 1, hn, b, m, hg => by
    have ih := find_good s L H n (by omega)
    obtain ⟨h, hh⟩ : ∃ h, h = H - (n + 1) := ⟨_, rfl⟩
    have hn' : H - n = h + 1 := by omega
    rw [hn'] at ih
    rw [findM, ← hh]
    cases hlk : lookE m.1 ((h : Int), b) 0 with
    | some p =>
      obtain ⟨j, v, bn⟩ := p
      exact ⟨hg, fun _ _ h => h, fun _ _ => rfl, by rw [lookW, hlk]; rfl⟩
    | none =>
      dsimp only
      have hno : lookW m.1 ((h : Int), b) = none := by rw [lookW, hlk]; rfl
      obtain ⟨stp, hstp⟩ : ∃ stp, stp = fun (a : Option Way × (List Ent × Nat)) (f : Flight) => (better a.1 f (findM s L H n (wr (b + f.load)) a.2).1, (findM s L H n (wr (b + f.load)) a.2).2) := ⟨_, rfl⟩
      rw [← hstp]
      have key : ∀ (l : List Flight) (a : Option Way × (List Ent × Nat)),
          (GoodM H a.2.1 ∧ (∀ k v, lookW m.1 k = some v → lookW a.2.1 k = some v) ∧ (∀ k, k.1 < ((h + 1 : Nat) : Int) → lookW a.2.1 k = lookW m.1 k) ∧ ∀ w, a.1 = some w → ∃ w', lookW a.2.1 (((h + 1 : Nat) : Int), wr (b + w.fl.load)) = some (some w')) →
          (GoodM H (l.foldl stp a).2.1 ∧ (∀ k v, lookW m.1 k = some v → lookW (l.foldl stp a).2.1 k = some v) ∧ (∀ k, k.1 < ((h + 1 : Nat) : Int) → lookW (l.foldl stp a).2.1 k = lookW m.1 k) ∧ ∀ w, (l.foldl stp a).1 = some w → ∃ w', lookW (l.foldl stp a).2.1 (((h + 1 : Nat) : Int), wr (b + w.fl.load)) = some (some w')) := by
        intro l
        induction l with
        | nil => exact fun a ha => ha
        | cons f l ihl =>
          intro a ⟨p1, p2, p3, p4⟩
          rw [List.foldl_cons]
          refine ihl _ ?_
          obtain ⟨q1, q2, q3, q4⟩ := ih (wr (b + f.load)) a.2 p1
          have e : stp a f = (better a.1 f (findM s L H n (wr (b + f.load)) a.2).1, (findM s L H n (wr (b + f.load)) a.2).2) := by rw [hstp]
          rw [e]
          dsimp only
          refine ⟨q1, fun k v hk => q2 k v (p2 k v hk), fun k hk => by rw [q3 k hk, p3 k hk], fun w hw => ?_⟩
          have old : ∀ w, a.1 = some w → ∃ w', lookW (findM s L H n (wr (b + f.load)) a.2).2.1 (((h + 1 : Nat) : Int), wr (b + w.fl.load)) = some (some w') := fun w hw => by
            obtain ⟨w', h1⟩ := p4 w hw
            exact ⟨w', q2 _ _ h1⟩
          cases hx : (findM s L H n (wr (b + f.load)) a.2).1 with
          | none =>
            rw [hx] at hw
            exact old w hw
          | some x =>
            rw [hx] at hw q4
            have new : ∀ w : Way, w.fl = f → ∃ w', lookW (findM s L H n (wr (b + f.load)) a.2).2.1 (((h + 1 : Nat) : Int), wr (b + w.fl.load)) = some (some w') := fun w hw => by
              rw [hw]
              exact ⟨x, q4⟩
            cases ha : a.1 with
            | none =>
              rw [ha] at hw
              simp only [better] at hw
              exact new w (by rw [← Option.some.inj hw])
            | some v =>
              rw [ha] at hw
              simp only [better] at hw
              split at hw
              · exact new w (by rw [← Option.some.inj hw])
              · exact old w (by rw [ha]; exact hw)
      obtain ⟨r, hr⟩ : ∃ r, r = (nextF s (flightsTo s.carr L h L.length) (h : Int) b).foldl stp (none, m) := ⟨_, rfl⟩
      obtain ⟨p1, p2, p3, p4⟩ := key (nextF s (flightsTo s.carr L h L.length) (h : Int) b) (none, m) ⟨hg, fun _ _ h => h, fun _ _ => rfl, fun w hw => by cases hw⟩
      rw [← hr] at p1 p2 p3 p4 ⊢
      have hno2 : lookW r.2.1 ((h : Int), b) = none := by rw [p3 _ (by dsimp only; omega), hno]
      refine ⟨⟨fun b' v hl => ?_, fun h' b' w hh' hl => ?_⟩, fun k v hk => ?_, fun k hk => ?_, by rw [lookW_put, if_pos rfl]⟩
      · rw [lookW_put, if_neg (by intro he; have := congrArg Prod.fst he; dsimp only at this; omega)] at hl
        exact p1.done b' v hl
      · rw [lookW_put] at hl
        have keep : ∀ k w', lookW r.2.1 k = some (some w') → lookW (putE r.2.1 ((h : Int), b) r.1 r.2.2).1 k = some (some w') := fun k w' hk => by
          rw [lookW_put, if_neg (by intro he; rw [he, hno2] at hk; cases hk)]
          exact hk
        split at hl
        · rename_i he
          have e1 : h' = h := by have := congrArg Prod.fst he; dsimp only at this; omega
          have e2 : b' = b := congrArg Prod.snd he
          subst e1; subst e2
          obtain ⟨w', hw⟩ := p4 w (Option.some.inj hl)
          exact ⟨w', keep _ _ hw⟩
        · obtain ⟨w', hw⟩ := p1.next h' b' w hh' hl
          exact ⟨w', keep _ _ hw⟩
      · rw [lookW_put, if_neg (by intro he; rw [he, hno] at hk; cases hk)]
        exact p2 k v hk
      · rw [lookW_put, if_neg (by intro he; rw [he] at hk; exact absurd hk (by dsimp only; omega))]
        exact p3 k (by omega)
end Go.Ab
namespace Go.Ab
open Go.RowKit Go.Proofs
set_option maxHeartbeats 8000000
set_option maxRecDepth 20000
attribute [local irreducible] WalkL Walk
structure Small6 (s : Supply) : Prop where
  len : s.loads.length = s.carr.length
  few : s.loads.length ≤ 4
  rows : ∀ r ∈ s.loads, r.length = s.hours
  hours : 1 ≤ s.hours ∧ s.hours ≤ 48
  look : lookF s.scen s.seen 0 true = 0
theorem small6 {s : Supply} (h : suppE s = 0) : Small6 s := by
  unfold suppE at h
  split at h
  · rename_i hl
    obtain ⟨hg, _⟩ := look_all hl
    split at h
    · cases h
    · split at h
      · cases h
      · rename_i h2
        simp only [carrsBad, Bool.or_eq_true, not_or, Bool.not_eq_true, decide_eq_false_iff_not] at h2
        have hlen : s.loads.length = s.carr.length := by simp [Supply.loads]
        refine ⟨hlen, by have := h2.1; omega, fun r hr => ?_, hg.hours, hl⟩
        obtain ⟨c, _, rfl⟩ := List.mem_map.1 hr
        exact rowQ_len _ _ _
  · rename_i h1; exact absurd h h1
def foundM (s : Supply) : Option Way × (List Ent × Nat) := findM s s.loads s.hours s.hours 0 ([], 0)
def planE (s : Supply) : Int := if (foundM s).1.isNone then 3 else 0
theorem zf73 (s : Supply) (hs : SuppSmall s) (h0 : suppE s = 0) :
    FnG Tryz.prog 73 [] [] ([.agg s.cells].map AV.d) (.tup [.agg [.d (.ptr (hutOf s) 0), .mp 0], .d (wayD (foundM s).1), .d (.i (planE s))]) [.mp (some 2) (memE (foundM s).2.1) (foundM s).2.2] := by
  have h6 := small6 h0
  have h25 := zf25n s true hs
  have he : openS6 s true = 0 := by rw [openS6, if_pos h0, if_pos rfl]
  rw [he, if_pos rfl] at h25
  have h47 := zf116 s s.loads s.hours (by have := h6.few; omega) h6.len.symm h6.rows h6.hours.2 s.hours (Nat.le_refl _) 0 ([], 0)
  rw [Nat.sub_self] at h47
  unfold planE
  rw [foundM]
  obtain ⟨r, hr⟩ : ∃ r, r = findM s s.loads s.hours s.hours 0 ([], 0) := ⟨_, rfl⟩
  rw [← hr] at h47 ⊢
  obtain ⟨w, es, c⟩ := r
  dsimp only at h47 ⊢
  rw [hutOf, hutRow] at h25
  rw [hutRow] at h47
  rw [hutOf]
  rw [Supply.cells] at h25
  change FnG Tryz.prog 116 [.mp (some 2) [] 0] [0] _ _ _ at h47
  refine fnG_walk 26 Tryz.call73 Tryz.func73 rfl (by decide) [16] [] (by simp only [List.length_cons, List.length_nil]; decide) (by kernel_rfl) fun J => ?_
  simp (maxSteps := 4000000) only [go_sem, St.startG, Tryz.ntmps73, Tryz.results73, List.map_cons, List.map_nil, List.range_succ,  Supply.cells, hutRow]
  repeat (first | refine walkL_true rfl ?_ | refine walkL_false rfl ?_ | refine walkL_seq ?_ | refine walkL_skip ?_ | refine walkL_block ?_ | (refine walkL_region fun K hK => ?_; simp (maxSteps := 4000000) only [go_sem]; (repeat (first | (refine ⟨_, .lent (hf := h25) (hd := rfl) (hr := rfl), ?_⟩; simp (maxSteps := 4000000) only [go_sem]) | (refine ⟨_, .given (hf := h25) (hd := rfl) (ha := rfl), ?_⟩; simp (maxSteps := 4000000) only [go_sem]))); refine hK _ ?_; clear hK K) | refine walkL_nil ?_ | refine walkL_ret ?_ | refine walkL_exit ?_ | refine blockA_here ?_ | refine blockA_other rfl ?_ | refine blockA_ret ?_ | refine blockA_normal ?_ | refine thenA_ret ?_ | refine thenA_exit ?_ | refine thenA_normal ?_)
  refine walkL_region fun K hK => ?_
  simp (maxSteps := 4000000) only [go_sem]
  refine ⟨_, .inPlace (n := 16) (hf := h47) (hn := rfl) (hb := rfl) (hla := rfl) (ha := argG_all (by repeat (first | exact trivial | refine And.intro ?_ ?_ | exact argG_ren rfl | exact argG_deep rfl rfl))), ?_⟩
  simp (maxSteps := 4000000) only [go_sem]
  refine hK _ ?_
  clear hK K
  cases w with
  | none =>
    simp (maxSteps := 4000000) only [go_sem, wayD]
    repeat (first | refine walkL_true rfl ?_ | refine walkL_false rfl ?_ | refine walkL_seq ?_ | refine walkL_skip ?_ | refine walkL_block ?_ | (refine walkL_region fun K hK => ?_; simp (maxSteps := 4000000) only [go_sem]; refine hK _ ?_; clear hK K) | refine walkL_nil ?_ | refine walkL_ret ?_ | refine walkL_exit ?_ | refine blockA_here ?_ | refine blockA_other rfl ?_ | refine blockA_ret ?_ | refine blockA_normal ?_ | refine thenA_ret ?_ | refine thenA_exit ?_ | refine thenA_normal ?_)
    simp (maxSteps := 4000000) only [go_sem]
  | some w =>
    simp (maxSteps := 4000000) only [go_sem, wayD]
    repeat (first | refine walkL_true rfl ?_ | refine walkL_false rfl ?_ | refine walkL_seq ?_ | refine walkL_skip ?_ | refine walkL_block ?_ | (refine walkL_region fun K hK => ?_; simp (maxSteps := 4000000) only [go_sem]; refine hK _ ?_; clear hK K) | refine walkL_nil ?_ | refine walkL_ret ?_ | refine walkL_exit ?_ | refine blockA_here ?_ | refine blockA_other rfl ?_ | refine blockA_ret ?_ | refine blockA_normal ?_ | refine thenA_ret ?_ | refine thenA_exit ?_ | refine thenA_normal ?_)
    simp (maxSteps := 4000000) only [go_sem]
end Go.Ab
namespace Go.Ab
open Go.RowKit Go.Proofs
set_option maxHeartbeats 8000000
set_option maxRecDepth 20000
attribute [local irreducible] WalkL Walk
def bitB (set : Int) (c : Nat) : Bool := bAnd .i64 (bShr .i64 set (c : Int)) 1 == 1
def tripsTo (h : Nat) (set : Int) (n : Nat) : List (Int × Int) := ((List.range n).filter (bitB set)).map fun (c : Nat) => ((h : Int), (c : Int))
theorem tripsTo_succ (h : Nat) (set : Int) (n : Nat) : tripsTo h set (n + 1) = tripsTo h set n ++ if bitB set n then [((h : Int), (n : Int))] else [] := by
  rw [tripsTo, List.range_succ, List.filter_append, List.map_append, ← tripsTo]
  congr 1
  by_cases hb : bitB set n = true
  · simp [hb]
  · simp [Bool.eq_false_iff.2 hb]
theorem tripsTo_len (h : Nat) (set : Int) (n : Nat) : (tripsTo h set n).length ≤ n := by
  rw [tripsTo, List.length_map]
  exact Nat.le_trans (List.length_filter_le _ _) (by simp)
def planT (es : List Ent) (n : Nat) : Nat → Nat → Int → Way → List (Int × Int)
  | 0, _, _, _ => []
  | k + 1, h, b, w => tripsTo h w.fl.set n ++ match lookW es (((h + 1 : Nat) : Int), wr (b + w.fl.load)) with
    | some (some w') => planT es n k (h + 1) (wr (b + w.fl.load)) w'
    | _ => []
def planS (s : Supply) : List (Int × Int) × Int × Int := match (foundM s).1 with
  | none => ([], 0, 3)
  | some w => (planT (foundM s).2.1 s.carr.length s.hours 0 0 w, w.cost, 0)
theorem zf28 (s : Supply) (hs : SuppSmall s) (h0 : suppE s = 0) : Fn Tryz.prog 28 [.agg s.cells] (.tup [.sl (tripRows (planS s).1), .i (planS s).2.1, .i (planS s).2.2]) := by
  have h6 := small6 h0
  have h34 := zf73 s hs h0
  obtain ⟨hfew, hH1, hH2, hcl⟩ := (⟨h6.few, h6.hours.1, h6.hours.2, h6.len⟩ : s.loads.length ≤ 4 ∧ 1 ≤ s.hours ∧ s.hours ≤ 48 ∧ s.loads.length = s.carr.length)
  obtain ⟨g1, _, _, g4⟩ := find_good s s.loads s.hours s.hours (Nat.le_refl _) 0 ([], 0) ⟨fun b v h => by simp [lookW, lookE] at h, fun h b w _ hl => by simp [lookW, lookE] at hl⟩
  rw [Nat.sub_self] at g4
  change GoodM s.hours (foundM s).2.1 at g1
  change lookW (foundM s).2.1 _ = some (foundM s).1 at g4
  unfold planS
  rw [planE] at h34
  obtain ⟨r, hr⟩ : ∃ r, r = foundM s := ⟨_, rfl⟩
  rw [← hr] at h34 g1 g4 ⊢
  obtain ⟨w0, es, c0⟩ := r
  dsimp only at h34 g1 g4 ⊢
  obtain ⟨H, hH⟩ : ∃ H, H = s.hours := ⟨_, rfl⟩
  rw [hutOf, hutRow, ← hH] at h34
  rw [← hH] at g1 hH1 hH2 ⊢
  rw [Supply.cells] at h34
  cases w0 with
  | none =>
    refine fn_walk 77 Tryz.call28 Tryz.func28 rfl (by decide) fun J => ?_
    simp (maxSteps := 4000000) only [go_sem, St.start, Tryz.ntmps28, Tryz.results28, Supply.cells]
    repeat (first | refine walkL_seq ?_ | refine walkL_skip ?_ | refine walkL_block ?_ | (refine walkL_region fun K hK => ?_; simp (maxSteps := 4000000) only [go_sem]; refine hK _ ?_; clear hK K) | refine walkL_nil ?_ | refine walkL_ret ?_ | refine walkL_exit ?_ | refine blockA_here ?_ | refine blockA_other rfl ?_ | refine blockA_ret ?_ | refine blockA_normal ?_ | refine thenA_ret ?_ | refine thenA_exit ?_ | refine thenA_normal ?_)
    refine walkL_region fun K hK => ?_
    simp (maxSteps := 4000000) only [go_sem]
    refine ⟨_, .made (news := [12]) (hf := h34) (hd := rfl) (hn := by decide) (hl := rfl) (hnew := rfl) (hx := rfl), ?_⟩
    simp (maxSteps := 4000000) only [go_sem, List.map_cons, List.map_nil, wayD]
    refine hK _ ?_
    clear hK K
    repeat (first | refine walkL_true rfl ?_ | refine walkL_false rfl ?_ | refine walkL_seq ?_ | refine walkL_skip ?_ | refine walkL_block ?_ | (refine walkL_region fun K hK => ?_; simp (maxSteps := 4000000) only [go_sem]; refine hK _ ?_; clear hK K) | refine walkL_nil ?_ | refine walkL_ret ?_ | refine walkL_exit ?_ | refine blockA_here ?_ | refine blockA_other rfl ?_ | refine blockA_ret ?_ | refine blockA_normal ?_ | refine thenA_ret ?_ | refine thenA_exit ?_ | refine thenA_normal ?_)
    simp (maxSteps := 4000000) only [go_sem]
    rfl
  | some w0 =>
    dsimp only
    refine fn_walk 77 Tryz.call28 Tryz.func28 rfl (by decide) fun J => ?_
    simp (maxSteps := 4000000) only [go_sem, St.start, Tryz.ntmps28, Tryz.results28, Supply.cells]
    repeat (first | refine walkL_seq ?_ | refine walkL_skip ?_ | refine walkL_block ?_ | (refine walkL_region fun K hK => ?_; simp (maxSteps := 4000000) only [go_sem]; refine hK _ ?_; clear hK K) | refine walkL_nil ?_ | refine walkL_ret ?_ | refine walkL_exit ?_ | refine blockA_here ?_ | refine blockA_other rfl ?_ | refine blockA_ret ?_ | refine blockA_normal ?_ | refine thenA_ret ?_ | refine thenA_exit ?_ | refine thenA_normal ?_)
    refine walkL_region fun K hK => ?_
    simp (maxSteps := 4000000) only [go_sem]
    refine ⟨_, .made (news := [12]) (hf := h34) (hd := rfl) (hn := by decide) (hl := rfl) (hnew := rfl) (hx := rfl), ?_⟩
    simp (maxSteps := 4000000) only [go_sem, List.map_cons, List.map_nil, wayD]
    refine hK _ ?_
    clear hK K
    repeat (first | refine walkL_true rfl ?_ | refine walkL_false rfl ?_ | refine walkL_seq ?_ | refine walkL_skip ?_ | refine walkL_block ?_ | (refine walkL_region fun K hK => ?_; simp (maxSteps := 4000000) only [go_sem]; refine hK _ ?_; clear hK K) | refine walkL_nil ?_ | refine walkL_ret ?_ | refine walkL_exit ?_ | refine blockA_here ?_ | refine blockA_other rfl ?_ | refine blockA_ret ?_ | refine blockA_normal ?_ | refine thenA_ret ?_ | refine thenA_exit ?_ | refine thenA_normal ?_)
    have hnc : s.carr.length ≤ 4 := by omega
    refine walkL_loopS (fun (a : Nat × Int × Way × List (Int × Int)) => [(7, .d (wayD (some a.2.2.1))), (2, .own 54)]) (fun a => [(8, some (.box [.d (.i (a.1 : Int)), .d (.i a.2.1)])), (54, some (.arr 51 2 (tripRows a.2.2.2)))])
      (fun a => a.1 ≤ H ∧ lookW es ((a.1 : Int), a.2.1) = some (some a.2.2.1) ∧ a.2.2.2.length ≤ 4 * a.1 ∧ planT es s.carr.length H 0 0 w0 = a.2.2.2 ++ planT es s.carr.length (H - a.1) a.1 a.2.1 a.2.2.1) (fun a => H - a.1) (0, 0, w0, []) ?_ ⟨Nat.zero_le _, g4, Nat.zero_le _, by simp⟩ ?_
    · simp (maxSteps := 4000000) only [go_sem, wayD, tripRows]
      refine weak_of [54] ?_ ?_ rfl rfl <;> simp [lessT, lessM, lessB, AV.less]
      all_goals first | done | rfl | exact ⟨rfl, rfl⟩ | trace_state
    · rintro ⟨h, b, w, T⟩ ⟨hh, hlw, hTl, hT⟩
      dsimp only at hh hlw hTl hT ⊢
      simp (maxSteps := 4000000) only [go_sem, wayD]
      repeat (first | refine walkL_seq ?_ | refine walkL_skip ?_ | refine walkL_block ?_ | (refine walkL_region fun K hK => ?_; simp (maxSteps := 4000000) only [go_sem]; refine hK _ ?_; clear hK K) | refine walkL_nil ?_ | refine walkL_ret ?_ | refine walkL_exit ?_ | refine blockA_here ?_ | refine blockA_other rfl ?_ | refine blockA_ret ?_ | refine blockA_normal ?_ | refine thenA_ret ?_ | refine thenA_exit ?_ | refine thenA_normal ?_)
      refine walkL_drawn (by kernel_rfl) (by kernel_rfl) fun K hK => ?_
      simp (maxSteps := 4000000) only [go_sem]
      refine ⟨by kernel_rfl, hK _ ?_⟩
      clear hK K
      refine walkL_cond rfl (fun hb => ?_) (fun hb => ?_)
      · have hlt : h < H := by simpa using hb
        obtain ⟨w', hw'⟩ := g1.next h b w hlt hlw
        rw [show H - h = (H - (h + 1)) + 1 by omega, planT, hw'] at hT
        dsimp only at hT
        repeat (first | refine walkL_seq ?_ | refine walkL_skip ?_ | refine walkL_block ?_ | (refine walkL_region fun K hK => ?_; simp (maxSteps := 4000000) only [go_sem, carrRows_len]; refine hK _ ?_; clear hK K) | refine walkL_nil ?_ | refine walkL_ret ?_ | refine walkL_exit ?_ | refine blockA_here ?_ | refine blockA_other rfl ?_ | refine blockA_ret ?_ | refine blockA_normal ?_ | refine thenA_ret ?_ | refine thenA_exit ?_ | refine thenA_normal ?_)
        refine walkL_loopS (fun (c : Nat) => [(36, .d (.i (c : Int))), (2, .own 54)]) (fun c => [(54, some (.arr 51 2 (tripRows (T ++ tripsTo h w.fl.set c))))]) (fun c => c ≤ s.carr.length) (fun c => s.carr.length - c) 0 ?_ (Nat.zero_le _) ?_
        · simp (maxSteps := 4000000) only [go_sem, tripsTo]
          refine weak_of [] ?_ ?_ rfl rfl <;> simp [lessT, lessM, lessB, AV.less]
          all_goals first | done | rfl | trace_state
        · intro c hc
          have hTc := tripsTo_len h w.fl.set c
          have hsucc := tripsTo_succ h w.fl.set c
          obtain ⟨X, hX⟩ : ∃ X, X = T ++ tripsTo h w.fl.set c := ⟨_, rfl⟩
          have hXl : X.length ≤ 4 * h + c := by rw [hX, List.length_append]; omega
          have hX2 : T ++ tripsTo h w.fl.set (c + 1) = X ++ if bitB w.fl.set c then [((h : Int), (c : Int))] else [] := by rw [hsucc, ← List.append_assoc, ← hX]
          rw [← hX]
          simp (maxSteps := 4000000) only [go_sem]
          repeat (first | refine walkL_seq ?_ | refine walkL_skip ?_ | refine walkL_block ?_ | (refine walkL_region fun K hK => ?_; simp (maxSteps := 4000000) only [go_sem]; refine hK _ ?_; clear hK K) | refine walkL_nil ?_ | refine walkL_ret ?_ | refine walkL_exit ?_ | refine blockA_here ?_ | refine blockA_other rfl ?_ | refine blockA_ret ?_ | refine blockA_normal ?_ | refine thenA_ret ?_ | refine thenA_exit ?_ | refine thenA_normal ?_)
          refine walkL_cond rfl (fun hb2 => ?_) (fun hb2 => ?_)
          · have hltc : c < s.carr.length := by simpa using hb2
            have hwc : IntKind.i64.wrap ((c : Int) + 1) = ((c + 1 : Nat) : Int) := by rw [wr_small (by omega)]; simp
            have hni : ¬ ((c : Int) < 0) := by omega
            have hn : X.length + 1 ≤ 549755813888 := by omega
            repeat (first | refine walkL_seq ?_ | refine walkL_skip ?_ | refine walkL_block ?_ | (refine walkL_region fun K hK => ?_; simp (maxSteps := 4000000) only [go_sem, hni]; refine hK _ ?_; clear hK K) | refine walkL_nil ?_ | refine walkL_ret ?_ | refine walkL_exit ?_ | refine blockA_here ?_ | refine blockA_other rfl ?_ | refine blockA_ret ?_ | refine blockA_normal ?_ | refine thenA_ret ?_ | refine thenA_exit ?_ | refine thenA_normal ?_)
            refine walkL_cond rfl (fun hb3 => ?_) (fun hb3 => ?_)
            · have hbit : bitB w.fl.set c = true := hb3
              rw [hbit, if_pos rfl] at hX2
              repeat (first | refine walkL_seq ?_ | refine walkL_skip ?_ | refine walkL_block ?_ | (refine walkL_region fun K hK => ?_; simp (maxSteps := 4000000) only [go_sem, hn, tripRows_len, hwc]; refine hK _ ?_; clear hK K) | refine walkL_nil ?_ | refine walkL_ret ?_ | refine walkL_exit ?_ | refine blockA_here ?_ | refine blockA_other rfl ?_ | refine blockA_ret ?_ | refine blockA_normal ?_ | refine thenA_ret ?_ | refine thenA_exit ?_ | refine thenA_normal ?_)
              refine ⟨rfl, c + 1, ?_, hltc, by omega⟩
              rw [hX2, tripRows_push]
              refine weak_of [] ?_ ?_ rfl rfl <;> simp [lessT, lessM, lessB, AV.less]
              all_goals first | done | rfl | exact ⟨rfl, rfl⟩ | trace_state
            · have hbit : bitB w.fl.set c = false := hb3
              rw [hbit] at hX2
              simp only [Bool.false_eq_true, if_false, List.append_nil] at hX2
              repeat (first | refine walkL_seq ?_ | refine walkL_skip ?_ | refine walkL_block ?_ | (refine walkL_region fun K hK => ?_; simp (maxSteps := 4000000) only [go_sem, hwc]; refine hK _ ?_; clear hK K) | refine walkL_nil ?_ | refine walkL_ret ?_ | refine walkL_exit ?_ | refine blockA_here ?_ | refine blockA_other rfl ?_ | refine blockA_ret ?_ | refine blockA_normal ?_ | refine thenA_ret ?_ | refine thenA_exit ?_ | refine thenA_normal ?_)
              refine ⟨rfl, c + 1, ?_, hltc, by omega⟩
              rw [hX2]
              refine weak_of [] ?_ ?_ rfl rfl <;> simp [lessT, lessM, lessB, AV.less]
              all_goals first | done | rfl | exact ⟨rfl, rfl⟩ | trace_state
          · have hec : c = s.carr.length := by (have : ¬ c < s.carr.length := by simpa using hb2); omega
            subst hec
            have e1 := findE_mem es (((h + 1 : Nat) : Int), wr (b + w.fl.load)) 0
            have hw1 : wr ((h : Int) + 1) = ((h + 1 : Nat) : Int) := by rw [wr, wr_small (by omega)]; simp
            unfold lookW at hw'
            obtain ⟨⟨j, v, bn⟩, hlk, hv⟩ := Option.map_eq_some_iff.1 hw'
            dsimp only at hv
            subst hv
            rw [hlk] at e1
            dsimp only [Option.map_some, wayD] at e1
            rw [← List.append_assoc, ← hX] at hT
            repeat (first | refine walkL_seq ?_ | refine walkL_skip ?_ | refine walkL_block ?_ | (refine walkL_region fun K hK => ?_; simp (maxSteps := 4000000) only [go_sem]; refine hK _ ?_; clear hK K) | refine walkL_nil ?_ | refine walkL_ret ?_ | refine walkL_exit ?_ | refine blockA_here ?_ | refine blockA_other rfl ?_ | refine blockA_ret ?_ | refine blockA_normal ?_ | refine thenA_ret ?_ | refine thenA_exit ?_ | refine thenA_normal ?_)
            refine walkL_drawn (by kernel_rfl) (by kernel_rfl) fun K hK => ?_
            simp (maxSteps := 4000000) only [go_sem, hw1]
            refine ⟨by kernel_rfl, hK _ ?_⟩
            clear hK K
            repeat (first | refine walkL_seq ?_ | refine walkL_skip ?_ | refine walkL_block ?_ | (refine walkL_region fun K hK => ?_; simp (maxSteps := 4000000) only [go_sem, e1]; refine hK _ ?_; clear hK K) | refine walkL_nil ?_ | refine walkL_ret ?_ | refine walkL_exit ?_ | refine blockA_here ?_ | refine blockA_other rfl ?_ | refine blockA_ret ?_ | refine blockA_normal ?_ | refine thenA_ret ?_ | refine thenA_exit ?_ | refine thenA_normal ?_)
            refine ⟨rfl, (h + 1, wr (b + w.fl.load), w', X), ?_, ⟨hlt, by unfold lookW; exact hw', by dsimp only; omega, hT⟩, by dsimp only; omega⟩
            simp (maxSteps := 4000000) only [go_sem, wayD]
            refine weak_of [] ?_ ?_ rfl rfl <;> simp [lessT, lessM, lessB, AV.less]
            all_goals first | done | rfl | exact ⟨rfl, rfl⟩ | trace_state
      · have he : h = H := by (have : ¬ h < H := by simpa using hb); omega
        subst he
        rw [Nat.sub_self, planT, List.append_nil] at hT
        rw [hT]
        repeat (first | refine walkL_seq ?_ | refine walkL_skip ?_ | refine walkL_block ?_ | (refine walkL_region fun K hK => ?_; simp (maxSteps := 4000000) only [go_sem]; refine hK _ ?_; clear hK K) | refine walkL_nil ?_ | refine walkL_ret ?_ | refine walkL_exit ?_ | refine blockA_here ?_ | refine blockA_other rfl ?_ | refine blockA_ret ?_ | refine blockA_normal ?_ | refine thenA_ret ?_ | refine thenA_exit ?_ | refine thenA_normal ?_)
        refine walkL_drawn (by kernel_rfl) (by kernel_rfl) fun K hK => ?_
        simp (maxSteps := 4000000) only [go_sem, wayD]
        refine ⟨by kernel_rfl, hK _ ?_⟩
        clear hK K
        repeat (first | refine walkL_seq ?_ | refine walkL_skip ?_ | refine walkL_block ?_ | (refine walkL_region fun K hK => ?_; simp (maxSteps := 4000000) only [go_sem]; refine hK _ ?_; clear hK K) | refine walkL_nil ?_ | refine walkL_ret ?_ | refine walkL_exit ?_ | refine blockA_here ?_ | refine blockA_other rfl ?_ | refine blockA_ret ?_ | refine blockA_normal ?_ | refine thenA_ret ?_ | refine thenA_exit ?_ | refine thenA_normal ?_)
        simp (maxSteps := 4000000) only [go_sem]
end Go.Ab
namespace Go.Ab
open Go.RowKit Go.Proofs
set_option maxHeartbeats 8000000
set_option maxRecDepth 20000
attribute [local irreducible] WalkL Walk
theorem list_eq_of_take {a b : List Int} (hl : a.length = b.length) (h : a.take a.length = b.take a.length) : a = b := by
  rw [List.take_length, hl, List.take_length] at h
  exact h
theorem zf16 (a b : List Int) (ha : a.length < 2 ^ 30) : Fn Tryz.prog 16 [.sl (intRows a), .sl (intRows b)] (.bool (decide (a = b))) := by
  refine fn_walk 26 Tryz.call16 Tryz.func16 rfl (by decide) fun J => ?_
  simp (maxSteps := 4000000) only [go_sem, St.start, Tryz.ntmps16, Tryz.results16]
  repeat (first | refine walkL_seq ?_ | refine walkL_skip ?_ | refine walkL_block ?_ | (refine walkL_region fun K hK => ?_; simp (maxSteps := 4000000) only [go_sem, intRows_len]; refine hK _ ?_; clear hK K) | refine walkL_nil ?_ | refine walkL_ret ?_ | refine walkL_exit ?_ | refine blockA_here ?_ | refine blockA_other rfl ?_ | refine blockA_ret ?_ | refine blockA_normal ?_ | refine thenA_ret ?_ | refine thenA_exit ?_ | refine thenA_normal ?_)
  by_cases hl : a.length = b.length
  · have hne : ((a.length : Int) != (b.length : Int)) = false := by simp [hl]
    simp (maxSteps := 4000000) only [go_sem, hne]
    refine walkL_false rfl ?_
    repeat (first | refine walkL_seq ?_ | refine walkL_skip ?_ | refine walkL_block ?_ | (refine walkL_region fun K hK => ?_; simp (maxSteps := 4000000) only [go_sem]; refine hK _ ?_; clear hK K) | refine walkL_nil ?_ | refine walkL_ret ?_ | refine walkL_exit ?_ | refine blockA_here ?_ | refine blockA_other rfl ?_ | refine blockA_ret ?_ | refine blockA_normal ?_ | refine thenA_ret ?_ | refine thenA_exit ?_ | refine thenA_normal ?_)
    refine walkL_loopS (fun (i : Nat) => [(5, .d (.i i))]) (fun _ => []) (fun i => i ≤ a.length ∧ a.take i = b.take i) (fun i => a.length - i) 0 ?_ ⟨Nat.zero_le _, by simp⟩ ?_
    · simp (maxSteps := 4000000) only [go_sem]
      refine weak_of [] ?_ ?_ rfl rfl <;> simp [lessT, lessM, lessB, AV.less]
    · intro i ⟨hi, heq⟩
      simp (maxSteps := 4000000) only [go_sem]
      repeat (first | refine walkL_seq ?_ | refine walkL_skip ?_ | refine walkL_block ?_ | (refine walkL_region fun K hK => ?_; simp (maxSteps := 4000000) only [go_sem, intRows_len]; refine hK _ ?_; clear hK K) | refine walkL_nil ?_ | refine walkL_ret ?_ | refine walkL_exit ?_ | refine blockA_here ?_ | refine blockA_other rfl ?_ | refine blockA_ret ?_ | refine blockA_normal ?_ | refine thenA_ret ?_ | refine thenA_exit ?_ | refine thenA_normal ?_)
      refine walkL_cond rfl (fun hb => ?_) (fun hb => ?_)
      · have hlt : i < a.length := by simpa using hb
        have hw : IntKind.i64.wrap ((i : Int) + 1) = ((i + 1 : Nat) : Int) := by rw [wr_small (by omega)]; simp
        obtain ⟨x, hx⟩ : ∃ x, a[i]? = some x := ⟨_, List.getElem?_eq_getElem hlt⟩
        obtain ⟨y, hy⟩ : ∃ y, b[i]? = some y := ⟨_, List.getElem?_eq_getElem (hl ▸ hlt)⟩
        have g1 := intRows_at hx
        have g2 := intRows_at hy
        repeat (first | refine walkL_seq ?_ | refine walkL_skip ?_ | refine walkL_block ?_ | (refine walkL_region fun K hK => ?_; simp (maxSteps := 4000000) only [go_sem]; refine hK _ ?_; clear hK K) | refine walkL_nil ?_ | refine walkL_ret ?_ | refine walkL_exit ?_ | refine blockA_here ?_ | refine blockA_other rfl ?_ | refine blockA_ret ?_ | refine blockA_normal ?_ | refine thenA_ret ?_ | refine thenA_exit ?_ | refine thenA_normal ?_)
        refine walkL_drawn (by kernel_rfl) (by kernel_rfl) fun K hK => ?_
        simp (maxSteps := 4000000) only [go_sem, g1, g2]
        refine ⟨by kernel_rfl, hK _ ?_⟩
        clear hK K
        refine walkL_cond rfl (fun hc => ?_) (fun hc => ?_)
        · have hc : ¬ x = y := by simpa using hc
          have hab : ¬ a = b := by rintro rfl; rw [hx] at hy; cases hy; exact hc rfl
          repeat (first | refine walkL_seq ?_ | refine walkL_skip ?_ | refine walkL_block ?_ | (refine walkL_region fun K hK => ?_; simp (maxSteps := 4000000) only [go_sem]; refine hK _ ?_; clear hK K) | refine walkL_nil ?_ | refine walkL_ret ?_ | refine walkL_exit ?_ | refine blockA_here ?_ | refine blockA_other rfl ?_ | refine blockA_ret ?_ | refine blockA_normal ?_ | refine thenA_ret ?_ | refine thenA_exit ?_ | refine thenA_normal ?_)
          simp (maxSteps := 4000000) only [go_sem, hab]
        · have hc : x = y := by simpa using hc
          repeat (first | refine walkL_seq ?_ | refine walkL_skip ?_ | refine walkL_block ?_ | (refine walkL_region fun K hK => ?_; simp (maxSteps := 4000000) only [go_sem, hw]; refine hK _ ?_; clear hK K) | refine walkL_nil ?_ | refine walkL_ret ?_ | refine walkL_exit ?_ | refine blockA_here ?_ | refine blockA_other rfl ?_ | refine blockA_ret ?_ | refine blockA_normal ?_ | refine thenA_ret ?_ | refine thenA_exit ?_ | refine thenA_normal ?_)
          refine ⟨rfl, i + 1, ?_, ⟨hlt, by rw [List.take_add_one, List.take_add_one, heq, hx, hy, hc]⟩, by omega⟩
          refine weak_of [] ?_ ?_ rfl rfl <;> simp [lessT, lessM, lessB, AV.less]
      · have he : i = a.length := by (have : ¬ i < a.length := by simpa using hb); omega
        subst he
        have hab : a = b := list_eq_of_take hl heq
        repeat (first | refine walkL_seq ?_ | refine walkL_skip ?_ | refine walkL_block ?_ | (refine walkL_region fun K hK => ?_; simp (maxSteps := 4000000) only [go_sem]; refine hK _ ?_; clear hK K) | refine walkL_nil ?_ | refine walkL_ret ?_ | refine walkL_exit ?_ | refine blockA_here ?_ | refine blockA_other rfl ?_ | refine blockA_ret ?_ | refine blockA_normal ?_ | refine thenA_ret ?_ | refine thenA_exit ?_ | refine thenA_normal ?_)
        simp (maxSteps := 4000000) only [go_sem, hab]
  · have hne : ((a.length : Int) != (b.length : Int)) = true := by simp; omega
    have hab : ¬ a = b := by rintro rfl; exact hl rfl
    simp (maxSteps := 4000000) only [go_sem, hne]
    refine walkL_true rfl ?_
    repeat (first | refine walkL_seq ?_ | refine walkL_skip ?_ | refine walkL_block ?_ | (refine walkL_region fun K hK => ?_; simp (maxSteps := 4000000) only [go_sem]; refine hK _ ?_; clear hK K) | refine walkL_nil ?_ | refine walkL_ret ?_ | refine walkL_exit ?_ | refine blockA_here ?_ | refine blockA_other rfl ?_ | refine blockA_ret ?_ | refine blockA_normal ?_ | refine thenA_ret ?_ | refine thenA_exit ?_ | refine thenA_normal ?_)
    simp (maxSteps := 4000000) only [go_sem, hab]
def storeBadR (s : Supply) : Bool := !withinB s.room 0 5000 || (!withinB s.stock 0 s.room || (!withinB s.reserve 0 s.room || (!withinB s.use.lo 0 s.use.hi || decide (s.use.hi > 500))))
theorem storeBadR_eq (s : Supply) : storeBadR s = storeBad s := by
  unfold storeBadR storeBad
  congr 1; congr 1; congr 1
  rw [Bool.eq_iff_iff]
  simp [withinB, orderedB]
  omega
theorem zf24 (s : Supply) (hs : SuppSmall s) : Fn Tryz.prog 24 [.agg s.cells] (.i (suppE s)) := by
  have h36 := zf68 s.scen s.seen hs.fore hs.seen
  have hcl := hs.carr
  refine fn_walk 95 Tryz.call24 Tryz.func24 rfl (by decide) fun J => ?_
  simp (maxSteps := 4000000) only [go_sem, St.start, Tryz.ntmps24, Tryz.results24, Supply.cells]
  obtain ⟨e, he⟩ : ∃ e, e = lookF s.scen s.seen 0 true := ⟨_, rfl⟩
  rw [suppE, ← he]
  rw [← he] at h36
  by_cases h0 : e = 0
  · rw [if_pos h0]
    have hz : (e != 0) = false := by simp [h0]
    rw [← storeBadR_eq]
    repeat (first | refine walkL_true rfl ?_ | refine walkL_false rfl ?_ | refine walkL_seq ?_ | refine walkL_skip ?_ | refine walkL_block ?_ | (refine walkL_region fun K hK => ?_; simp (maxSteps := 4000000) only [go_sem, hz]; (repeat (first | (refine ⟨_, .lent (hf := h36) (hd := rfl) (hr := rfl), ?_⟩; simp (maxSteps := 4000000) only [go_sem, hz]) | (refine ⟨_, .given (hf := h36) (hd := rfl) (ha := rfl), ?_⟩; simp (maxSteps := 4000000) only [go_sem, hz]))); refine hK _ ?_; clear hK K) | refine walkL_nil ?_ | refine walkL_ret ?_ | refine walkL_exit ?_ | refine blockA_here ?_ | refine blockA_other rfl ?_ | refine blockA_ret ?_ | refine blockA_normal ?_ | refine thenA_ret ?_ | refine thenA_exit ?_ | refine thenA_normal ?_)
    refine walkL_meetS [(56, .d (.bool (storeBadR s)))] [] ?_ ?_
    · refine walkL_region fun K hK => ?_
      simp (maxSteps := 4000000) only [go_sem]
      refine ⟨_, .lent (hf := zf62 s.room 0 5000) (hd := rfl) (hr := rfl), ?_⟩
      simp (maxSteps := 4000000) only [go_sem]
      by_cases ho0 : (!withinB s.room 0 5000) = true
      · simp (maxSteps := 4000000) only [go_sem, ho0]
        refine hK _ ?_
        clear hK K
        refine walkL_nil ?_
        refine thenA_normal ?_
        refine ⟨rfl, ?_⟩
        rw [show (storeBadR s) = (true) from by simp [storeBadR, ho0]]
        simp (maxSteps := 4000000) only [go_sem]
        refine weak_of [] ?_ ?_ rfl rfl <;> simp [lessT, lessM, lessB, AV.less]
      · simp (maxSteps := 4000000) only [go_sem, ho0]
        refine ⟨_, .lent (hf := zf62 s.stock 0 s.room) (hd := rfl) (hr := rfl), ?_⟩
        simp (maxSteps := 4000000) only [go_sem, ho0]
        by_cases ho1 : (!withinB s.stock 0 s.room) = true
        · simp (maxSteps := 4000000) only [go_sem, ho0, ho1]
          refine hK _ ?_
          clear hK K
          refine walkL_nil ?_
          refine thenA_normal ?_
          refine ⟨rfl, ?_⟩
          rw [show (storeBadR s) = (true) from by simp [storeBadR, ho0, ho1]]
          simp (maxSteps := 4000000) only [go_sem]
          refine weak_of [] ?_ ?_ rfl rfl <;> simp [lessT, lessM, lessB, AV.less]
        · simp (maxSteps := 4000000) only [go_sem, ho0, ho1]
          refine ⟨_, .lent (hf := zf62 s.reserve 0 s.room) (hd := rfl) (hr := rfl), ?_⟩
          simp (maxSteps := 4000000) only [go_sem, ho0, ho1]
          by_cases ho2 : (!withinB s.reserve 0 s.room) = true
          · simp (maxSteps := 4000000) only [go_sem, ho0, ho1, ho2]
            refine hK _ ?_
            clear hK K
            refine walkL_nil ?_
            refine thenA_normal ?_
            refine ⟨rfl, ?_⟩
            rw [show (storeBadR s) = (true) from by simp [storeBadR, ho0, ho1, ho2]]
            simp (maxSteps := 4000000) only [go_sem]
            refine weak_of [] ?_ ?_ rfl rfl <;> simp [lessT, lessM, lessB, AV.less]
          · simp (maxSteps := 4000000) only [go_sem, ho0, ho1, ho2]
            refine ⟨_, .lent (hf := zf62 s.use.lo 0 s.use.hi) (hd := rfl) (hr := rfl), ?_⟩
            simp (maxSteps := 4000000) only [go_sem, ho0, ho1, ho2]
            by_cases ho3 : (!withinB s.use.lo 0 s.use.hi) = true
            · simp (maxSteps := 4000000) only [go_sem, ho0, ho1, ho2, ho3]
              refine hK _ ?_
              clear hK K
              refine walkL_nil ?_
              refine thenA_normal ?_
              refine ⟨rfl, ?_⟩
              rw [show (storeBadR s) = (true) from by simp [storeBadR, ho0, ho1, ho2, ho3]]
              simp (maxSteps := 4000000) only [go_sem]
              refine weak_of [] ?_ ?_ rfl rfl <;> simp [lessT, lessM, lessB, AV.less]
            · simp (maxSteps := 4000000) only [go_sem, ho0, ho1, ho2, ho3]
              refine hK _ ?_
              clear hK K
              refine walkL_nil ?_
              refine thenA_normal ?_
              refine ⟨rfl, ?_⟩
              rw [show (storeBadR s) = (decide (s.use.hi > 500)) from by simp [storeBadR, ho0, ho1, ho2, ho3]]
              simp (maxSteps := 4000000) only [go_sem]
              refine weak_of [] ?_ ?_ rfl rfl <;> simp [lessT, lessM, lessB, AV.less]
    · simp (maxSteps := 4000000) only [go_sem]
      repeat (first | refine walkL_seq ?_ | refine walkL_skip ?_ | refine walkL_block ?_ | (refine walkL_region fun K hK => ?_; simp (maxSteps := 4000000) only [go_sem]; refine hK _ ?_; clear hK K) | refine walkL_nil ?_ | refine walkL_ret ?_ | refine walkL_exit ?_ | refine blockA_here ?_ | refine blockA_other rfl ?_ | refine blockA_ret ?_ | refine blockA_normal ?_ | refine thenA_ret ?_ | refine thenA_exit ?_ | refine thenA_normal ?_)
      refine walkL_cond rfl (fun hc => ?_) (fun hc => ?_)
      · repeat (first | refine walkL_seq ?_ | refine walkL_skip ?_ | refine walkL_block ?_ | (refine walkL_region fun K hK => ?_; simp (maxSteps := 4000000) only [go_sem]; refine hK _ ?_; clear hK K) | refine walkL_nil ?_ | refine walkL_ret ?_ | refine walkL_exit ?_ | refine blockA_here ?_ | refine blockA_other rfl ?_ | refine blockA_ret ?_ | refine blockA_normal ?_ | refine thenA_ret ?_ | refine thenA_exit ?_ | refine thenA_normal ?_)
        simp (maxSteps := 4000000) only [go_sem, hc]
      · have hc0 := hc
        repeat (first | refine walkL_seq ?_ | refine walkL_skip ?_ | refine walkL_block ?_ | (refine walkL_region fun K hK => ?_; simp (maxSteps := 4000000) only [go_sem, carrRows_len]; refine hK _ ?_; clear hK K) | refine walkL_nil ?_ | refine walkL_ret ?_ | refine walkL_exit ?_ | refine blockA_here ?_ | refine blockA_other rfl ?_ | refine blockA_ret ?_ | refine blockA_normal ?_ | refine thenA_ret ?_ | refine thenA_exit ?_ | refine thenA_normal ?_)
        refine walkL_cond rfl (fun hc => ?_) (fun hc => ?_)
        · have hq : carrsBad s = true := by rw [carrsBad, hc]; rfl
          repeat (first | refine walkL_seq ?_ | refine walkL_skip ?_ | refine walkL_block ?_ | (refine walkL_region fun K hK => ?_; simp (maxSteps := 4000000) only [go_sem]; refine hK _ ?_; clear hK K) | refine walkL_nil ?_ | refine walkL_ret ?_ | refine walkL_exit ?_ | refine blockA_here ?_ | refine blockA_other rfl ?_ | refine blockA_ret ?_ | refine blockA_normal ?_ | refine thenA_ret ?_ | refine thenA_exit ?_ | refine thenA_normal ?_)
          simp (maxSteps := 4000000) only [go_sem, hc0, hq]
        · have hc1 := hc
          repeat (first | refine walkL_seq ?_ | refine walkL_skip ?_ | refine walkL_block ?_ | (refine walkL_region fun K hK => ?_; simp (maxSteps := 4000000) only [go_sem]; refine hK _ ?_; clear hK K) | refine walkL_nil ?_ | refine walkL_ret ?_ | refine walkL_exit ?_ | refine blockA_here ?_ | refine blockA_other rfl ?_ | refine blockA_ret ?_ | refine blockA_normal ?_ | refine thenA_ret ?_ | refine thenA_exit ?_ | refine thenA_normal ?_)
          refine walkL_loopS (fun (i : Nat) => [(6, .d (.i i))]) (fun _ => []) (fun i => i ≤ s.carr.length ∧ (s.carr.take i).any carrBad = false) (fun i => s.carr.length - i) 0 ?_ ⟨Nat.zero_le _, by simp⟩ ?_
          · simp (maxSteps := 4000000) only [go_sem]
            refine weak_of [] ?_ ?_ rfl rfl <;> simp [lessT, lessM, lessB, AV.less]
          · intro i ⟨hi, hno⟩
            simp (maxSteps := 4000000) only [go_sem]
            repeat (first | refine walkL_seq ?_ | refine walkL_skip ?_ | refine walkL_block ?_ | (refine walkL_region fun K hK => ?_; simp (maxSteps := 4000000) only [go_sem, carrRows_len]; refine hK _ ?_; clear hK K) | refine walkL_nil ?_ | refine walkL_ret ?_ | refine walkL_exit ?_ | refine blockA_here ?_ | refine blockA_other rfl ?_ | refine blockA_ret ?_ | refine blockA_normal ?_ | refine thenA_ret ?_ | refine thenA_exit ?_ | refine thenA_normal ?_)
            refine walkL_cond rfl (fun hb => ?_) (fun hb => ?_)
            · have hlt : i < s.carr.length := by simpa using hb
              have hw : IntKind.i64.wrap ((i : Int) + 1) = ((i + 1 : Nat) : Int) := by rw [wr_small (by omega)]; simp
              obtain ⟨c, hcc⟩ : ∃ c, s.carr[i]? = some c := ⟨_, List.getElem?_eq_getElem hlt⟩
              have gc := carrRows_at hcc
              have h37 := zf69 c.lim
              rw [Limits.row] at h37
              repeat (first | refine walkL_seq ?_ | refine walkL_skip ?_ | refine walkL_block ?_ | (refine walkL_region fun K hK => ?_; simp (maxSteps := 4000000) only [go_sem, gc, Carrier.row]; refine hK _ ?_; clear hK K) | refine walkL_nil ?_ | refine walkL_ret ?_ | refine walkL_exit ?_ | refine blockA_here ?_ | refine blockA_other rfl ?_ | refine blockA_ret ?_ | refine blockA_normal ?_ | refine thenA_ret ?_ | refine thenA_exit ?_ | refine thenA_normal ?_)
              refine walkL_meetS [(94, .d (.bool (carrBad c)))] [] ?_ ?_
              · refine walkL_region fun K hK => ?_
                simp (maxSteps := 4000000) only [go_sem]
                refine ⟨_, .lent (hf := zf62 c.lift 0 1000) (hd := rfl) (hr := rfl), ?_⟩
                simp (maxSteps := 4000000) only [go_sem]
                by_cases ho0 : (!withinB c.lift 0 1000) = true
                · simp (maxSteps := 4000000) only [go_sem, ho0]
                  refine hK _ ?_
                  clear hK K
                  refine walkL_nil ?_
                  refine thenA_normal ?_
                  refine ⟨rfl, ?_⟩
                  rw [show (carrBad c) = (true) from by simp [carrBad, ho0]]
                  simp (maxSteps := 4000000) only [go_sem]
                  refine weak_of [] ?_ ?_ rfl rfl <;> simp [lessT, lessM, lessB, AV.less]
                · simp (maxSteps := 4000000) only [go_sem, ho0]
                  refine ⟨_, .lent (hf := zf62 c.heat 0 50) (hd := rfl) (hr := rfl), ?_⟩
                  simp (maxSteps := 4000000) only [go_sem, ho0]
                  by_cases ho1 : (!withinB c.heat 0 50) = true
                  · simp (maxSteps := 4000000) only [go_sem, ho0, ho1]
                    refine hK _ ?_
                    clear hK K
                    refine walkL_nil ?_
                    refine thenA_normal ?_
                    refine ⟨rfl, ?_⟩
                    rw [show (carrBad c) = (true) from by simp [carrBad, ho0, ho1]]
                    simp (maxSteps := 4000000) only [go_sem]
                    refine weak_of [] ?_ ?_ rfl rfl <;> simp [lessT, lessM, lessB, AV.less]
                  · simp (maxSteps := 4000000) only [go_sem, ho0, ho1]
                    refine ⟨_, .lent (hf := zf62 c.cost 0 10000) (hd := rfl) (hr := rfl), ?_⟩
                    simp (maxSteps := 4000000) only [go_sem, ho0, ho1]
                    by_cases ho2 : (!withinB c.cost 0 10000) = true
                    · simp (maxSteps := 4000000) only [go_sem, ho0, ho1, ho2]
                      refine hK _ ?_
                      clear hK K
                      refine walkL_nil ?_
                      refine thenA_normal ?_
                      refine ⟨rfl, ?_⟩
                      rw [show (carrBad c) = (true) from by simp [carrBad, ho0, ho1, ho2]]
                      simp (maxSteps := 4000000) only [go_sem]
                      refine weak_of [] ?_ ?_ rfl rfl <;> simp [lessT, lessM, lessB, AV.less]
                    · simp (maxSteps := 4000000) only [go_sem, ho0, ho1, ho2]
                      refine ⟨_, .lent (hf := h37) (hd := rfl) (hr := rfl), ?_⟩
                      simp (maxSteps := 4000000) only [go_sem, ho0, ho1, ho2]
                      refine hK _ ?_
                      clear hK K
                      refine walkL_nil ?_
                      refine thenA_normal ?_
                      refine ⟨rfl, ?_⟩
                      rw [show (carrBad c) = (!limB c.lim) from by simp [carrBad, ho0, ho1, ho2]]
                      simp (maxSteps := 4000000) only [go_sem]
                      refine weak_of [] ?_ ?_ rfl rfl <;> simp [lessT, lessM, lessB, AV.less]
              · simp (maxSteps := 4000000) only [go_sem]
                repeat (first | refine walkL_seq ?_ | refine walkL_skip ?_ | refine walkL_block ?_ | (refine walkL_region fun K hK => ?_; simp (maxSteps := 4000000) only [go_sem]; refine hK _ ?_; clear hK K) | refine walkL_nil ?_ | refine walkL_ret ?_ | refine walkL_exit ?_ | refine blockA_here ?_ | refine blockA_other rfl ?_ | refine blockA_ret ?_ | refine blockA_normal ?_ | refine thenA_ret ?_ | refine thenA_exit ?_ | refine thenA_normal ?_)
                refine walkL_cond rfl (fun hc => ?_) (fun hc => ?_)
                · have hq : carrsBad s = true := by
                    rw [carrsBad, Bool.or_eq_true]
                    exact .inr (List.any_eq_true.2 ⟨c, List.mem_of_getElem? hcc, hc⟩)
                  repeat (first | refine walkL_seq ?_ | refine walkL_skip ?_ | refine walkL_block ?_ | (refine walkL_region fun K hK => ?_; simp (maxSteps := 4000000) only [go_sem]; refine hK _ ?_; clear hK K) | refine walkL_nil ?_ | refine walkL_ret ?_ | refine walkL_exit ?_ | refine blockA_here ?_ | refine blockA_other rfl ?_ | refine blockA_ret ?_ | refine blockA_normal ?_ | refine thenA_ret ?_ | refine thenA_exit ?_ | refine thenA_normal ?_)
                  simp (maxSteps := 4000000) only [go_sem, hc0, hq]
                · have hnx : (s.carr.take (i + 1)).any carrBad = false := by
                    rw [List.take_add_one, hcc, Option.toList_some, List.any_append, hno]
                    simp [hc]
                  repeat (first | refine walkL_seq ?_ | refine walkL_skip ?_ | refine walkL_block ?_ | (refine walkL_region fun K hK => ?_; simp (maxSteps := 4000000) only [go_sem, hw]; refine hK _ ?_; clear hK K) | refine walkL_nil ?_ | refine walkL_ret ?_ | refine walkL_exit ?_ | refine blockA_here ?_ | refine blockA_other rfl ?_ | refine blockA_ret ?_ | refine blockA_normal ?_ | refine thenA_ret ?_ | refine thenA_exit ?_ | refine thenA_normal ?_)
                  refine ⟨rfl, i + 1, ?_, ⟨hlt, hnx⟩, by omega⟩
                  refine weak_of [] ?_ ?_ rfl rfl <;> simp [lessT, lessM, lessB, AV.less]
            · have he : i = s.carr.length := by (have : ¬ i < s.carr.length := by simpa using hb); omega
              subst he
              rw [List.take_length] at hno
              have hq : carrsBad s = false := by rw [carrsBad, hc1, hno]; rfl
              repeat (first | refine walkL_seq ?_ | refine walkL_skip ?_ | refine walkL_block ?_ | (refine walkL_region fun K hK => ?_; simp (maxSteps := 4000000) only [go_sem]; refine hK _ ?_; clear hK K) | refine walkL_nil ?_ | refine walkL_ret ?_ | refine walkL_exit ?_ | refine blockA_here ?_ | refine blockA_other rfl ?_ | refine blockA_ret ?_ | refine blockA_normal ?_ | refine thenA_ret ?_ | refine thenA_exit ?_ | refine thenA_normal ?_)
              simp (maxSteps := 4000000) only [go_sem, hc0, hq]
  · rw [if_neg h0]
    have hz : (e != 0) = true := by simp [h0]
    repeat (first | refine walkL_true rfl ?_ | refine walkL_false rfl ?_ | refine walkL_seq ?_ | refine walkL_skip ?_ | refine walkL_block ?_ | (refine walkL_region fun K hK => ?_; simp (maxSteps := 4000000) only [go_sem, hz]; (repeat (first | (refine ⟨_, .lent (hf := h36) (hd := rfl) (hr := rfl), ?_⟩; simp (maxSteps := 4000000) only [go_sem, hz]) | (refine ⟨_, .given (hf := h36) (hd := rfl) (ha := rfl), ?_⟩; simp (maxSteps := 4000000) only [go_sem, hz]))); refine hK _ ?_; clear hK K) | refine walkL_nil ?_ | refine walkL_ret ?_ | refine walkL_exit ?_ | refine blockA_here ?_ | refine blockA_other rfl ?_ | refine blockA_ret ?_ | refine blockA_normal ?_ | refine thenA_ret ?_ | refine thenA_exit ?_ | refine thenA_normal ?_)
    simp (maxSteps := 4000000) only [go_sem]
def exS : Supply := ⟨exF, [], 30, 10, 60, ⟨5, 8⟩, [⟨20, 1, 7, ⟨40, 0, ⟨-5, 15⟩⟩⟩, ⟨15, 0, 4, ⟨200, 100, ⟨-50, 50⟩⟩⟩]⟩
theorem zf49 : Fn Tryz.prog 49 [] (.agg exS.cells) := by
  refine fn_walk 21 Tryz.call49 Tryz.func49 rfl (by decide) fun J => ?_
  simp (maxSteps := 4000000) only [go_sem, St.start, Tryz.ntmps49, Tryz.results49]
  obtain ⟨F, hF⟩ : ∃ F, F = scenRows exF := ⟨_, rfl⟩
  have h38 := zf96
  rw [← hF] at h38
  repeat (first | refine walkL_seq ?_ | refine walkL_skip ?_ | refine walkL_block ?_ | (refine walkL_region fun K hK => ?_; simp (maxSteps := 4000000) only [go_sem]; (repeat (first | (refine ⟨_, .lent (hf := h38) (hd := rfl) (hr := rfl), ?_⟩; simp (maxSteps := 4000000) only [go_sem]) | (refine ⟨_, .given (hf := h38) (hd := rfl) (ha := rfl), ?_⟩; simp (maxSteps := 4000000) only [go_sem]))); refine hK _ ?_; clear hK K) | refine walkL_nil ?_ | refine walkL_ret ?_ | refine walkL_exit ?_ | refine blockA_here ?_ | refine blockA_other rfl ?_ | refine blockA_ret ?_ | refine blockA_normal ?_ | refine thenA_ret ?_ | refine thenA_exit ?_ | refine thenA_normal ?_)
  simp (maxSteps := 4000000) only [go_sem, exS, Supply.cells, ← hF, carrRows, Carrier.row, sightRows]
end Go.Ab
namespace Go.Ab
open Go.RowKit Go.Proofs
set_option maxHeartbeats 8000000
set_option maxRecDepth 20000
attribute [local irreducible] WalkL Walk
def far6 (s : Supply) : Bool := far5 s.scen s.seen || (decide ((s.carr.length : Int) > 20) || (suppE s == 0 && (decide ((s.hours : Int) > 6) || (decide ((s.scen.length : Int) > 3) || decide ((s.carr.length : Int) > 2)))))
theorem supp_look {s : Supply} (h : suppE s = 0) : lookF s.scen s.seen 0 true = 0 := by
  unfold suppE at h
  split at h
  · assumption
  · rename_i h1; exact absurd h h1
theorem zf11 (s : Supply) (hs : SuppSmall s) : Fn Tryz.prog 11 [.agg s.cells] (.bool (far6 s)) := by
  have h35 := zf47 s.scen s.seen hs.fore
  have h18 := zf24 s hs
  obtain ⟨e, he⟩ : ∃ e, e = suppE s := ⟨_, rfl⟩
  obtain ⟨q, hq⟩ : ∃ q, q = far5 s.scen s.seen := ⟨_, rfl⟩
  unfold far6
  rw [← he, ← hq]
  rw [← he] at h18
  rw [← hq] at h35
  rw [Supply.cells] at h18
  refine fn_walk 36 Tryz.call11 Tryz.func11 rfl (by decide) fun J => ?_
  simp (maxSteps := 4000000) only [go_sem, St.start, Tryz.ntmps11, Tryz.results11, Supply.cells]
  cases q
  · cases q2 : decide ((s.carr.length : Int) > 20)
    · by_cases h0 : e = 0
      · have hz : (e == 0) = true := by simp [h0]
        have hlk := supp_look (s := s) (by rw [← he]; exact h0)
        obtain ⟨hg, _⟩ := look_all hlk
        have hF := hg.scen
        have h19 := zf48 s.scen (hd0 s.scen) (headD_get (by omega))
        have hh : s.hours = (hd0 s.scen).length := rfl
        obtain ⟨b3, hb3⟩ : ∃ b, b = decide ((s.hours : Int) > 6) := ⟨_, rfl⟩
        obtain ⟨b4, hb4⟩ : ∃ b, b = decide ((s.scen.length : Int) > 3) := ⟨_, rfl⟩
        rw [← hh] at h19
        rw [← hb3, ← hb4]
        have hb3' := hb3.symm
        have hb4' := hb4.symm
        cases b3 <;> cases b4
        all_goals
          repeat (first | refine walkL_true rfl ?_ | refine walkL_false rfl ?_ | refine walkL_seq ?_ | refine walkL_skip ?_ | refine walkL_block ?_ | (refine walkL_region fun K hK => ?_; simp (maxSteps := 4000000) only [go_sem, carrRows_len, scenRows_len, q2, hz, hb3', hb4']; (repeat (first | (refine ⟨_, .lent (hf := h35) (hd := rfl) (hr := rfl), ?_⟩; simp (maxSteps := 4000000) only [go_sem, carrRows_len, scenRows_len, q2, hz, hb3', hb4']) | (refine ⟨_, .lent (hf := h18) (hd := rfl) (hr := rfl), ?_⟩; simp (maxSteps := 4000000) only [go_sem, carrRows_len, scenRows_len, q2, hz, hb3', hb4']) | (refine ⟨_, .lent (hf := h19) (hd := rfl) (hr := rfl), ?_⟩; simp (maxSteps := 4000000) only [go_sem, carrRows_len, scenRows_len, q2, hz, hb3', hb4']) | (refine ⟨_, .given (hf := h35) (hd := rfl) (ha := rfl), ?_⟩; simp (maxSteps := 4000000) only [go_sem, carrRows_len, scenRows_len, q2, hz, hb3', hb4']) | (refine ⟨_, .given (hf := h18) (hd := rfl) (ha := rfl), ?_⟩; simp (maxSteps := 4000000) only [go_sem, carrRows_len, scenRows_len, q2, hz, hb3', hb4']) | (refine ⟨_, .given (hf := h19) (hd := rfl) (ha := rfl), ?_⟩; simp (maxSteps := 4000000) only [go_sem, carrRows_len, scenRows_len, q2, hz, hb3', hb4']))); refine hK _ ?_; clear hK K) | refine walkL_nil ?_ | refine walkL_ret ?_ | refine walkL_exit ?_ | refine blockA_here ?_ | refine blockA_other rfl ?_ | refine blockA_ret ?_ | refine blockA_normal ?_ | refine thenA_ret ?_ | refine thenA_exit ?_ | refine thenA_normal ?_)
          simp (maxSteps := 4000000) only [go_sem, hz, q2]
      · have hz : (e == 0) = false := by simp [h0]
        repeat (first | refine walkL_true rfl ?_ | refine walkL_false rfl ?_ | refine walkL_seq ?_ | refine walkL_skip ?_ | refine walkL_block ?_ | (refine walkL_region fun K hK => ?_; simp (maxSteps := 4000000) only [go_sem, carrRows_len, q2, hz]; (repeat (first | (refine ⟨_, .lent (hf := h35) (hd := rfl) (hr := rfl), ?_⟩; simp (maxSteps := 4000000) only [go_sem, carrRows_len, q2, hz]) | (refine ⟨_, .lent (hf := h18) (hd := rfl) (hr := rfl), ?_⟩; simp (maxSteps := 4000000) only [go_sem, carrRows_len, q2, hz]) | (refine ⟨_, .given (hf := h35) (hd := rfl) (ha := rfl), ?_⟩; simp (maxSteps := 4000000) only [go_sem, carrRows_len, q2, hz]) | (refine ⟨_, .given (hf := h18) (hd := rfl) (ha := rfl), ?_⟩; simp (maxSteps := 4000000) only [go_sem, carrRows_len, q2, hz]))); refine hK _ ?_; clear hK K) | refine walkL_nil ?_ | refine walkL_ret ?_ | refine walkL_exit ?_ | refine blockA_here ?_ | refine blockA_other rfl ?_ | refine blockA_ret ?_ | refine blockA_normal ?_ | refine thenA_ret ?_ | refine thenA_exit ?_ | refine thenA_normal ?_)
        simp (maxSteps := 4000000) only [go_sem, hz, q2]
    · repeat (first | refine walkL_true rfl ?_ | refine walkL_false rfl ?_ | refine walkL_seq ?_ | refine walkL_skip ?_ | refine walkL_block ?_ | (refine walkL_region fun K hK => ?_; simp (maxSteps := 4000000) only [go_sem, carrRows_len, q2]; (repeat (first | (refine ⟨_, .lent (hf := h35) (hd := rfl) (hr := rfl), ?_⟩; simp (maxSteps := 4000000) only [go_sem, carrRows_len, q2]) | (refine ⟨_, .given (hf := h35) (hd := rfl) (ha := rfl), ?_⟩; simp (maxSteps := 4000000) only [go_sem, carrRows_len, q2]))); refine hK _ ?_; clear hK K) | refine walkL_nil ?_ | refine walkL_ret ?_ | refine walkL_exit ?_ | refine blockA_here ?_ | refine blockA_other rfl ?_ | refine blockA_ret ?_ | refine blockA_normal ?_ | refine thenA_ret ?_ | refine thenA_exit ?_ | refine thenA_normal ?_)
      simp (maxSteps := 4000000) only [go_sem]
  · repeat (first | refine walkL_true rfl ?_ | refine walkL_false rfl ?_ | refine walkL_seq ?_ | refine walkL_skip ?_ | refine walkL_block ?_ | (refine walkL_region fun K hK => ?_; simp (maxSteps := 4000000) only [go_sem]; (repeat (first | (refine ⟨_, .lent (hf := h35) (hd := rfl) (hr := rfl), ?_⟩; simp (maxSteps := 4000000) only [go_sem]) | (refine ⟨_, .given (hf := h35) (hd := rfl) (ha := rfl), ?_⟩; simp (maxSteps := 4000000) only [go_sem]))); refine hK _ ?_; clear hK K) | refine walkL_nil ?_ | refine walkL_ret ?_ | refine walkL_exit ?_ | refine blockA_here ?_ | refine blockA_other rfl ?_ | refine blockA_ret ?_ | refine blockA_normal ?_ | refine thenA_ret ?_ | refine thenA_exit ?_ | refine thenA_normal ?_)
    simp (maxSteps := 4000000) only [go_sem]
def valid6 (s : Supply) : Bool := !far6 s && suppE s == 0
end Go.Ab
namespace Go.Ab
open Go.RowKit Go.Proofs
set_option maxHeartbeats 8000000
set_option maxRecDepth 20000
attribute [local irreducible] WalkL Walk
def askB (s : Supply) (c n : Int) : Bool := withinB c 0 ((s.carr.length : Int) - 1) && withinB n 1 48
def nextW (s : Supply) (c n : Int) : Int × Int × Int := windowF s.scen s.seen (s.carr.getD c.toNat ⟨0, 0, 0, ⟨0, 0, ⟨0, 0⟩⟩⟩).lim n
def nextE (s : Supply) (c n : Int) : Int := if (nextW s c n).2.2 = 0 ∧ (nextW s c n).2.1 < 0 then 3 else (nextW s c n).2.2
def nextP (s : Supply) (c n : Int) : Int × Bool × Int :=
  if openS6 s (askB s c n) = 0 then (if nextE s c n = 0 then ((nextW s c n).2.1, (nextW s c n).2.1 == 0 || decide (wr (s.stock - wr ((nextW s c n).2.1 * s.use.hi)) ≥ s.reserve), 0) else (0, false, nextE s c n)) else (0, false, openS6 s (askB s c n))
theorem zf26 (s : Supply) (c n : Int) (hs : SuppSmall s) : Fn Tryz.prog 26 [.agg s.cells, .i c, .i n] (.tup [.i (nextP s c n).1, .bool (nextP s c n).2.1, .i (nextP s c n).2.2]) := by
  have hcl := hs.carr
  have hw1 : IntKind.i64.wrap ((s.carr.length : Int) - 1) = s.carr.length - 1 := wr_small (by omega)
  have k1 := zf53 c 0 ((s.carr.length : Int) - 1)
  have k2 := zf53 n 1 48
  have h25 := fun b => zf25n s b hs
  obtain ⟨a1, ha1⟩ : ∃ b, b = withinB c 0 ((s.carr.length : Int) - 1) := ⟨_, rfl⟩
  obtain ⟨a2, ha2⟩ : ∃ b, b = withinB n 1 48 := ⟨_, rfl⟩
  have hask : askB s c n = (a1 && a2) := by rw [askB, ← ha1, ← ha2]
  unfold nextP
  rw [hask]
  rw [← ha1] at k1
  rw [← ha2] at k2
  have h25a := h25 (a1 && a2)
  obtain ⟨e, he⟩ : ∃ e, e = openS6 s (a1 && a2) := ⟨_, rfl⟩
  rw [← he] at h25a ⊢
  simp only [Supply.cells] at h25a
  refine fn_walk 73 Tryz.call26 Tryz.func26 rfl (by decide) fun J => ?_
  simp (maxSteps := 4000000) only [go_sem, St.start, Tryz.ntmps26, Tryz.results26, Supply.cells]
  by_cases h0 : e = 0
  · have hz : (e != 0) = false := by simp [h0]
    have htrue : a1 = true := by
      rw [he, openS6] at h0
      split at h0
      · split at h0
        · rename_i hb; simp at hb; exact hb.1
        · cases h0
      · rename_i hne; exact absurd h0 hne
    have htrue2 : a2 = true := by
      rw [he, openS6] at h0
      split at h0
      · split at h0
        · rename_i hb; simp at hb; exact hb.2
        · cases h0
      · rename_i hne; exact absurd h0 hne
    subst htrue; subst htrue2
    have hr := within_iff.1 ha1.symm
    obtain ⟨x, hx⟩ : ∃ x, s.carr[c.toNat]? = some x := ⟨_, List.getElem?_eq_getElem (by omega)⟩
    have gx := carrRows_at hx
    rw [Carrier.row] at gx
    have h12 := zf71 s.scen s.seen x.lim n hs.fore hs.seen
    have hW : nextW s c n = windowF s.scen s.seen x.lim n := by rw [nextW, List.getD, hx]; rfl
    rw [← hW] at h12
    unfold nextE
    obtain ⟨W, hWW⟩ : ∃ W, W = nextW s c n := ⟨_, rfl⟩
    rw [← hWW] at h12 ⊢
    obtain ⟨w1, w2, w3⟩ := W
    dsimp only at h12 ⊢
    rw [Limits.row] at h12
    rw [if_pos h0, hutOf, hutRow] at h25a
    rw [if_pos h0]
    have hc0 : ¬ c < 0 := by omega
    have hcn : (c.toNat : Int) = c := by omega
    simp only [Bool.and_self] at h25a
    repeat (first | refine walkL_seq ?_ | refine walkL_skip ?_ | refine walkL_block ?_ | (refine walkL_region fun K hK => ?_; simp (maxSteps := 4000000) only [go_sem]; refine hK _ ?_; clear hK K) | refine walkL_nil ?_ | refine walkL_ret ?_ | refine walkL_exit ?_ | refine blockA_here ?_ | refine blockA_other rfl ?_ | refine blockA_ret ?_ | refine blockA_normal ?_ | refine thenA_ret ?_ | refine thenA_exit ?_ | refine thenA_normal ?_)
    refine walkL_drawn (by kernel_rfl) (by kernel_rfl) fun K hK => ?_
    simp (maxSteps := 4000000) only [go_sem, hw1, carrRows_len]
    refine ⟨_, .fn (hf := k1) (hd := rfl) (hr := .inl rfl), ?_⟩
    simp (maxSteps := 4000000) only [go_sem]
    refine ⟨_, .fn (hf := k2) (hd := rfl) (hr := .inl rfl), ?_⟩
    simp (maxSteps := 4000000) only [go_sem]
    refine ⟨_, .fn (hf := h25a) (hd := rfl) (hr := .inr rfl), ?_⟩
    simp (maxSteps := 4000000) only [go_sem]
    refine ⟨by kernel_rfl, hK _ ?_⟩
    clear hK K
    repeat (first | refine walkL_true rfl ?_ | refine walkL_false rfl ?_ | refine walkL_seq ?_ | refine walkL_skip ?_ | refine walkL_block ?_ | (refine walkL_region fun K hK => ?_; simp (maxSteps := 4000000) only [go_sem, hz]; refine hK _ ?_; clear hK K) | refine walkL_nil ?_ | refine walkL_ret ?_ | refine walkL_exit ?_ | refine blockA_here ?_ | refine blockA_other rfl ?_ | refine blockA_ret ?_ | refine blockA_normal ?_ | refine thenA_ret ?_ | refine thenA_exit ?_ | refine thenA_normal ?_)
    refine walkL_drawn (by kernel_rfl) (by kernel_rfl) fun K hK => ?_
    simp (maxSteps := 4000000) only [go_sem, gx, hr.1]
    refine ⟨_, .fn (hf := h12) (hd := rfl) (hr := .inl rfl), ?_⟩
    simp (maxSteps := 4000000) only [go_sem]
    refine ⟨by kernel_rfl, hK _ ?_⟩
    clear hK K
    by_cases c1 : w3 = 0
    · have q1 : (w3 == 0) = true := by simp [c1]
      have q2 : (w3 != 0) = false := by simp [c1]
      by_cases c2 : w2 < 0
      · have q3 : decide (w2 < 0) = true := decide_eq_true c2
        rw [if_pos (show w3 = 0 ∧ w2 < 0 from ⟨c1, c2⟩), if_neg (by decide)]
        repeat (first | refine walkL_true rfl ?_ | refine walkL_false rfl ?_ | refine walkL_seq ?_ | refine walkL_skip ?_ | refine walkL_block ?_ | (refine walkL_region fun K hK => ?_; simp (maxSteps := 4000000) only [go_sem, q1, q3]; refine hK _ ?_; clear hK K) | refine walkL_nil ?_ | refine walkL_ret ?_ | refine walkL_exit ?_ | refine blockA_here ?_ | refine blockA_other rfl ?_ | refine blockA_ret ?_ | refine blockA_normal ?_ | refine thenA_ret ?_ | refine thenA_exit ?_ | refine thenA_normal ?_)
        simp (maxSteps := 4000000) only [go_sem]
      · have q3 : decide (w2 < 0) = false := decide_eq_false c2
        rw [if_neg (show ¬ (w3 = 0 ∧ w2 < 0) from fun h => c2 h.2), if_pos c1]
        dsimp only
        repeat (first | refine walkL_true rfl ?_ | refine walkL_false rfl ?_ | refine walkL_seq ?_ | refine walkL_skip ?_ | refine walkL_block ?_ | (refine walkL_region fun K hK => ?_; simp (maxSteps := 4000000) only [go_sem, q1, q2, q3]; refine hK _ ?_; clear hK K) | refine walkL_nil ?_ | refine walkL_ret ?_ | refine walkL_exit ?_ | refine blockA_here ?_ | refine blockA_other rfl ?_ | refine blockA_ret ?_ | refine blockA_normal ?_ | refine thenA_ret ?_ | refine thenA_exit ?_ | refine thenA_normal ?_)
        cases q4 : (w2 == 0)
        · refine walkL_drawn (by kernel_rfl) (by kernel_rfl) fun K hK => ?_
          simp (maxSteps := 4000000) only [go_sem, q4]
          refine ⟨by kernel_rfl, hK _ ?_⟩
          clear hK K
          repeat (first | refine walkL_true rfl ?_ | refine walkL_false rfl ?_ | refine walkL_seq ?_ | refine walkL_skip ?_ | refine walkL_block ?_ | (refine walkL_region fun K hK => ?_; simp (maxSteps := 4000000) only [go_sem]; refine hK _ ?_; clear hK K) | refine walkL_nil ?_ | refine walkL_ret ?_ | refine walkL_exit ?_ | refine blockA_here ?_ | refine blockA_other rfl ?_ | refine blockA_ret ?_ | refine blockA_normal ?_ | refine thenA_ret ?_ | refine thenA_exit ?_ | refine thenA_normal ?_)
          simp (maxSteps := 4000000) only [go_sem]
        · refine walkL_drawn (by kernel_rfl) (by kernel_rfl) fun K hK => ?_
          simp (maxSteps := 4000000) only [go_sem, q4]
          refine ⟨by kernel_rfl, hK _ ?_⟩
          clear hK K
          repeat (first | refine walkL_true rfl ?_ | refine walkL_false rfl ?_ | refine walkL_seq ?_ | refine walkL_skip ?_ | refine walkL_block ?_ | (refine walkL_region fun K hK => ?_; simp (maxSteps := 4000000) only [go_sem]; refine hK _ ?_; clear hK K) | refine walkL_nil ?_ | refine walkL_ret ?_ | refine walkL_exit ?_ | refine blockA_here ?_ | refine blockA_other rfl ?_ | refine blockA_ret ?_ | refine blockA_normal ?_ | refine thenA_ret ?_ | refine thenA_exit ?_ | refine thenA_normal ?_)
          simp (maxSteps := 4000000) only [go_sem]
    · have q1 : (w3 == 0) = false := by simpa using c1
      have q2 : (w3 != 0) = true := by simpa using c1
      rw [if_neg (show ¬ (w3 = 0 ∧ w2 < 0) from fun h => c1 h.1), if_neg c1]
      repeat (first | refine walkL_true rfl ?_ | refine walkL_false rfl ?_ | refine walkL_seq ?_ | refine walkL_skip ?_ | refine walkL_block ?_ | (refine walkL_region fun K hK => ?_; simp (maxSteps := 4000000) only [go_sem, q1, q2]; refine hK _ ?_; clear hK K) | refine walkL_nil ?_ | refine walkL_ret ?_ | refine walkL_exit ?_ | refine blockA_here ?_ | refine blockA_other rfl ?_ | refine blockA_ret ?_ | refine blockA_normal ?_ | refine thenA_ret ?_ | refine thenA_exit ?_ | refine thenA_normal ?_)
      simp (maxSteps := 4000000) only [go_sem]
  · have hz : (e != 0) = true := by simp [h0]
    rw [if_neg h0] at h25a
    rw [if_neg h0]
    cases a1
    · simp only [Bool.false_and] at h25a
      repeat (first | refine walkL_seq ?_ | refine walkL_skip ?_ | refine walkL_block ?_ | (refine walkL_region fun K hK => ?_; simp (maxSteps := 4000000) only [go_sem]; refine hK _ ?_; clear hK K) | refine walkL_nil ?_ | refine walkL_ret ?_ | refine walkL_exit ?_ | refine blockA_here ?_ | refine blockA_other rfl ?_ | refine blockA_ret ?_ | refine blockA_normal ?_ | refine thenA_ret ?_ | refine thenA_exit ?_ | refine thenA_normal ?_)
      refine walkL_drawn (by kernel_rfl) (by kernel_rfl) fun K hK => ?_
      simp (maxSteps := 4000000) only [go_sem, hw1, carrRows_len]
      refine ⟨_, .fn (hf := k1) (hd := rfl) (hr := .inl rfl), ?_⟩
      simp (maxSteps := 4000000) only [go_sem]
      refine ⟨_, .fn (hf := h25a) (hd := rfl) (hr := .inl rfl), ?_⟩
      simp (maxSteps := 4000000) only [go_sem]
      refine ⟨by kernel_rfl, hK _ ?_⟩
      clear hK K
      repeat (first | refine walkL_true rfl ?_ | refine walkL_false rfl ?_ | refine walkL_seq ?_ | refine walkL_skip ?_ | refine walkL_block ?_ | (refine walkL_region fun K hK => ?_; simp (maxSteps := 4000000) only [go_sem, hz]; refine hK _ ?_; clear hK K) | refine walkL_nil ?_ | refine walkL_ret ?_ | refine walkL_exit ?_ | refine blockA_here ?_ | refine blockA_other rfl ?_ | refine blockA_ret ?_ | refine blockA_normal ?_ | refine thenA_ret ?_ | refine thenA_exit ?_ | refine thenA_normal ?_)
      simp (maxSteps := 4000000) only [go_sem]
    · simp only [Bool.true_and] at h25a
      repeat (first | refine walkL_seq ?_ | refine walkL_skip ?_ | refine walkL_block ?_ | (refine walkL_region fun K hK => ?_; simp (maxSteps := 4000000) only [go_sem]; refine hK _ ?_; clear hK K) | refine walkL_nil ?_ | refine walkL_ret ?_ | refine walkL_exit ?_ | refine blockA_here ?_ | refine blockA_other rfl ?_ | refine blockA_ret ?_ | refine blockA_normal ?_ | refine thenA_ret ?_ | refine thenA_exit ?_ | refine thenA_normal ?_)
      refine walkL_drawn (by kernel_rfl) (by kernel_rfl) fun K hK => ?_
      simp (maxSteps := 4000000) only [go_sem, hw1, carrRows_len]
      refine ⟨_, .fn (hf := k1) (hd := rfl) (hr := .inl rfl), ?_⟩
      simp (maxSteps := 4000000) only [go_sem]
      refine ⟨_, .fn (hf := k2) (hd := rfl) (hr := .inl rfl), ?_⟩
      simp (maxSteps := 4000000) only [go_sem]
      refine ⟨_, .fn (hf := h25a) (hd := rfl) (hr := .inl rfl), ?_⟩
      simp (maxSteps := 4000000) only [go_sem]
      refine ⟨by kernel_rfl, hK _ ?_⟩
      clear hK K
      repeat (first | refine walkL_true rfl ?_ | refine walkL_false rfl ?_ | refine walkL_seq ?_ | refine walkL_skip ?_ | refine walkL_block ?_ | (refine walkL_region fun K hK => ?_; simp (maxSteps := 4000000) only [go_sem, hz]; refine hK _ ?_; clear hK K) | refine walkL_nil ?_ | refine walkL_ret ?_ | refine walkL_exit ?_ | refine blockA_here ?_ | refine blockA_other rfl ?_ | refine blockA_ret ?_ | refine blockA_normal ?_ | refine thenA_ret ?_ | refine thenA_exit ?_ | refine thenA_normal ?_)
      simp (maxSteps := 4000000) only [go_sem]
end Go.Ab
namespace Go.Ab
open Go.RowKit Go.Proofs
set_option maxHeartbeats 8000000
set_option maxRecDepth 20000
attribute [local irreducible] WalkL Walk
theorem exS_small : SuppSmall exS := ⟨⟨by decide, by intro l hl; simp [exS, exF] at hl; rcases hl with rfl | rfl <;> decide⟩, by decide, by decide⟩
theorem exS_ok : suppE exS = 0 := by kernel_rfl
theorem exS_loads : exS.loads = [[0, 0, 10, 10, 0, 0], [15, 15, 15, 15, 15, 15]] := by kernel_rfl
theorem exS_plan : (planS exS).2.1 = 8 ∧ (planS exS).2.2 = 0 := by decide +kernel
theorem zf12 : Fn Tryz.prog 12 [] (.bool true) := by
  have h23 := zf49
  have h15 := zf22 exS exS_small
  have h16 := zf28 exS exS_small exS_ok
  have h24 := zf16 [0, 0, 10, 10, 0, 0] [0, 0, 10, 10, 0, 0] (by decide)
  rw [exS_ok, if_pos rfl, exS_loads] at h15
  rw [exS_plan.1, exS_plan.2] at h16
  simp only [decide_true] at h24
  obtain ⟨T, hT⟩ : ∃ T, T = tripRows (planS exS).1 := ⟨_, rfl⟩
  rw [← hT] at h16
  rw [Supply.cells] at h15 h16 h23
  obtain ⟨F, hF⟩ : ∃ F, F = scenRows exS.scen := ⟨_, rfl⟩
  obtain ⟨C, hC⟩ : ∃ C, C = carrRows exS.carr := ⟨_, rfl⟩
  obtain ⟨G, hG⟩ : ∃ G, G = sightRows exS.seen := ⟨_, rfl⟩
  rw [← hF, ← hC, ← hG] at h15 h16 h23
  have hl : listRows [[0, 0, 10, 10, 0, 0], [15, 15, 15, 15, 15, 15]] = [[.sl (intRows [0, 0, 10, 10, 0, 0])], [.sl (intRows [15, 15, 15, 15, 15, 15])]] := rfl
  have hi : intRows [0, 0, 10, 10, 0, 0] = [[.i 0], [.i 0], [.i 10], [.i 10], [.i 0], [.i 0]] := rfl
  rw [hl, hi] at h15
  rw [hi] at h24
  refine fn_walk 41 Tryz.call12 Tryz.func12 rfl (by decide) fun J => ?_
  simp (maxSteps := 4000000) only [go_sem, St.start, Tryz.ntmps12, Tryz.results12]
  repeat (first | refine walkL_true rfl ?_ | refine walkL_false rfl ?_ | refine walkL_seq ?_ | refine walkL_skip ?_ | refine walkL_block ?_ | (refine walkL_region fun K hK => ?_; simp (maxSteps := 4000000) only [go_sem]; (repeat (first | (refine ⟨_, .lent (hf := h23) (hd := rfl) (hr := rfl), ?_⟩; simp (maxSteps := 4000000) only [go_sem]) | (refine ⟨_, .lent (hf := h15) (hd := rfl) (hr := rfl), ?_⟩; simp (maxSteps := 4000000) only [go_sem]) | (refine ⟨_, .lent (hf := h16) (hd := rfl) (hr := rfl), ?_⟩; simp (maxSteps := 4000000) only [go_sem]) | (refine ⟨_, .lent (hf := h24) (hd := rfl) (hr := rfl), ?_⟩; simp (maxSteps := 4000000) only [go_sem]) | (refine ⟨_, .given (hf := h23) (hd := rfl) (ha := rfl), ?_⟩; simp (maxSteps := 4000000) only [go_sem]) | (refine ⟨_, .given (hf := h15) (hd := rfl) (ha := rfl), ?_⟩; simp (maxSteps := 4000000) only [go_sem]) | (refine ⟨_, .given (hf := h16) (hd := rfl) (ha := rfl), ?_⟩; simp (maxSteps := 4000000) only [go_sem]) | (refine ⟨_, .given (hf := h24) (hd := rfl) (ha := rfl), ?_⟩; simp (maxSteps := 4000000) only [go_sem]))); refine hK _ ?_; clear hK K) | refine walkL_nil ?_ | refine walkL_ret ?_ | refine walkL_exit ?_ | refine blockA_here ?_ | refine blockA_other rfl ?_ | refine blockA_ret ?_ | refine blockA_normal ?_ | refine thenA_ret ?_ | refine thenA_exit ?_ | refine thenA_normal ?_)
  simp (maxSteps := 4000000) only [go_sem]
end Go.Ab
namespace Go.Ab
open Go.RowKit Go.Proofs
set_option maxHeartbeats 8000000
set_option maxRecDepth 20000
attribute [local irreducible] WalkL Walk
theorem zf13m (s : Supply) (hs : SuppSmall s) : FnG Tryz.prog 13 [] [] (List.map AV.d [.agg s.cells]) (.agg [.d (.sl (scenRows s.scen)), .own 0, .d (.i s.stock), .d (.i s.reserve), .d (.i s.room), .d (.i s.use.lo), .d (.i s.use.hi), .own 1])
    [.arr 95 4 (sightRows s.seen), .arr 125 7 (carrRows s.carr)] := by
  have h33 := zf50 s.scen hs.fore
  have h1 := hs.seen
  have h2 := hs.carr
  have e1 : s.seen.length ≤ 549755813888 := by omega
  have e2 : s.carr.length ≤ 549755813888 := by omega
  refine fnG_walk 20 Tryz.call13 Tryz.func13 rfl (by decide) [9, 14] [] (by simp only [List.length_cons, List.length_nil]; decide) (by kernel_rfl) fun J => ?_
  simp (maxSteps := 4000000) only [go_sem, St.startG, Tryz.ntmps13, Tryz.results13, List.map_cons, List.map_nil, List.range_succ,  Supply.cells]
  repeat (first | refine walkL_seq ?_ | refine walkL_skip ?_ | refine walkL_block ?_ | (refine walkL_region fun K hK => ?_; simp (maxSteps := 4000000) only [go_sem, e1, e2, carrRows_len, carrRows_head, List.nil_append]; (repeat (first | (refine ⟨_, .lent (hf := h33) (hd := rfl) (hr := rfl), ?_⟩; simp (maxSteps := 4000000) only [go_sem, e1, e2, carrRows_len, carrRows_head, List.nil_append]) | (refine ⟨_, .given (hf := h33) (hd := rfl) (ha := rfl), ?_⟩; simp (maxSteps := 4000000) only [go_sem, e1, e2, carrRows_len, carrRows_head, List.nil_append]))); refine hK _ ?_; clear hK K) | refine walkL_nil ?_ | refine walkL_ret ?_ | refine walkL_exit ?_ | refine blockA_here ?_ | refine blockA_other rfl ?_ | refine blockA_ret ?_ | refine blockA_normal ?_ | refine thenA_ret ?_ | refine thenA_exit ?_ | refine thenA_normal ?_)
  simp (maxSteps := 4000000) only [go_sem, retG]
def usesB (s : Supply) (l : List Int) : Bool := l.all (fun x => withinB x s.use.lo s.use.hi) && ((l.length : Int) == (s.hours : Int))
end Go.Ab
namespace Go.Ab
open Go.RowKit Go.Proofs
theorem fold_hi {h : Int} {G : Int} : ∀ (S : List (List Hour)) (b : Hour), (S.foldl (fun o l => hullH o (hourAt l h)) b).temp.hi ≤ G ↔ b.temp.hi ≤ G ∧ ∀ s ∈ S, (hourAt s h).temp.hi ≤ G
  | [], b => by simp
  | s :: S, b => by
    rw [List.foldl_cons, fold_hi S]
    simp only [hullH, hullS, List.mem_cons, forall_eq_or_imp]
    constructor
    · rintro ⟨h1, h2⟩
      exact ⟨by omega, by omega, h2⟩
    · rintro ⟨h1, h2, h3⟩
      exact ⟨by omega, h3⟩
theorem hull_hi {S : List (List Hour)} {h : Int} {G : Int} (hS : S ≠ []) : (hullAll S h).temp.hi ≤ G ↔ ∀ s ∈ S, (hourAt s h).temp.hi ≤ G := by
  unfold hullAll
  rw [fold_hi]
  constructor
  · exact fun h => h.2
  · intro h1
    refine ⟨?_, h1⟩
    cases S with
    | nil => exact absurd rfl hS
    | cons a l => exact h1 a (by simp)
theorem heat_low (S : List (List Hour)) (t : Nat) : 0 ≤ heatF S t := by unfold heatF; omega
end Go.Ab
namespace Go.Ab
open Go.RowKit Go.Proofs
theorem scen_temp {F : List (List Hour)} {seen : List Sight} (hg : ForeGood F) (hsi : sightsB (hd0 F).length seen = true) : ∀ s ∈ scensOf (possL F seen), ∀ j < s.length, (hourAt s (j : Int)).temp.hi ≤ 50 := by
  intro s hs j hj
  obtain ⟨l, hl, ha, rfl⟩ := scens5_mem.1 hs
  rw [seenHours_len] at hj
  have sp := seenHours_at (seen := seen) (l := l) j (sight5_range hg hsi hl) (sights_spec hsi).2.1
  by_cases hx : ∃ x ∈ seen, x.hour = (j : Int)
  · obtain ⟨x, hxm, hxh⟩ := hx
    rw [sp.1 x hxm hxh]
    have hok := List.all_eq_true.1 (Bool.and_eq_true _ _ ▸ hsi).1 x hxm
    rw [sightOk, Bool.and_eq_true] at hok
    exact (hourB_iff.1 hok.2).2.2.2.2
  · rw [sp.2 (fun x hxm hxh => hx ⟨x, hxm, hxh⟩)]
    have hj2 : l[((j : Int)).toNat]? = some (hourAt l (j : Int)) := hourAt_get ⟨by omega, by simpa using hj⟩
    exact (hourB_iff.1 (hg.hour l hl _ (List.mem_of_getElem? hj2))).2.2.2.2
theorem heat_high {F : List (List Hour)} {seen : List Sight} (hg : ForeGood F) (hsi : sightsB (hd0 F).length seen = true) (hp : possL F seen ≠ []) {t : Nat} (ht : t < (hd0 F).length) : heatF (scensOf (possL F seen)) t ≤ 50 := by
  have hS : scensOf (possL F seen) ≠ [] := by simpa [scensOf] using hp
  have : (hullAll (scensOf (possL F seen)) (t : Int)).temp.hi ≤ 50 := by
    rw [hull_hi hS]
    intro s hs
    exact scen_temp hg hsi s hs t (by rw [scens_all hg s hs]; exact ht)
  unfold heatF
  omega
def Supply.more (s : Supply) (x : Sight) : Supply := { s with seen := s.seen ++ [x] }
end Go.Ab
namespace Go.Ab
open Go.RowKit Go.Proofs
def betterC (best : Option Int) (f : Flight) : Option Int → Option Int
  | none => best
  | some w => match best with
    | none => some (wr (f.cost + w))
    | some v => if wr (f.cost + w) < v then some (wr (f.cost + w)) else best
def fls (s : Supply) (L : List (List Int)) (h : Nat) (b : Int) : List Flight := nextF s (flightsTo s.carr L h L.length) (h : Int) b
def costF (s : Supply) (L : List (List Int)) (H : Nat) : Nat → Int → Option Int
  | 0, _ => some 0
  | n + 1, b => (fls s L (H - (n + 1)) b).foldl (fun a f => betterC a f (costF s L H n (wr (b + f.load)))) none
structure GoodC (s : Supply) (L : List (List Int)) (H : Nat) (es : List Ent) : Prop where
  cost : ∀ (h : Nat) b v, h ≤ H → lookW es ((h : Int), b) = some v → v.map (·.cost) = costF s L H (H - h) b
  way : ∀ (h : Nat) b w, h < H → lookW es ((h : Int), b) = some (some w) → w.fl ∈ fls s L h b
structure PlanW (s : Supply) (L : List (List Int)) (lo hi : Nat) (F : Nat → Flight) (B : Nat → Int) : Prop where
  mem : ∀ j, lo ≤ j → j < hi → F j ∈ fls s L j (B j)
  next : ∀ j, lo ≤ j → j < hi → B (j + 1) = wr (B j + (F j).load)
theorem bit_or : ∀ (i : Fin 4) (set : Fin 16) (c : Fin 4), set.val < 2 ^ i.val → (bitB (bOr .i64 (set.val : Int) (bShl .i64 1 (i.val : Int))) c.val = (bitB (set.val : Int) c.val || c.val == i.val)) ∧ (0 ≤ bOr .i64 (set.val : Int) (bShl .i64 1 (i.val : Int)) ∧ bOr .i64 (set.val : Int) (bShl .i64 1 (i.val : Int)) < 2 ^ (i.val + 1)) := by decide
theorem bit_none : ∀ (i : Fin 4) (set : Fin 16) (c : Fin 4), set.val < 2 ^ i.val → i.val ≤ c.val → bitB (set.val : Int) c.val = false := by decide
def sumTo (g : Nat → Int) : Nat → Int
  | 0 => 0
  | n + 1 => sumTo g n + g n
theorem sumTo_congr {g g' : Nat → Int} : ∀ {n : Nat}, (∀ i < n, g i = g' i) → sumTo g n = sumTo g' n
  | 0, _ => rfl
  | n + 1, h => by rw [sumTo, sumTo, sumTo_congr (n := n) (fun i hi => h i (by omega)), h n (by omega)]
def ldAt (L : List (List Int)) (c h : Nat) : Int := getI (L.getD c []) (h : Int)
structure FlOk (cs : List Carrier) (L : List (List Int)) (h i : Nat) (f : Flight) : Prop where
  set : 0 ≤ f.set ∧ f.set < 2 ^ i
  some : ∀ c < i, bitB f.set c = true → ldAt L c h ≠ 0
  load : f.load = sumTo (fun c => if bitB f.set c then ldAt L c h else 0) i
  cost : f.cost = sumTo (fun c => if bitB f.set c then (cs.getD c noCarrier).cost else 0) i
structure FlSmall (cs : List Carrier) (L : List (List Int)) (h : Nat) : Prop where
  load : ∀ c, 0 ≤ ldAt L c h ∧ ldAt L c h ≤ 1000
  cost : ∀ c, 0 ≤ (cs.getD c noCarrier).cost ∧ (cs.getD c noCarrier).cost ≤ 10000
theorem FlOk.small {cs : List Carrier} {L : List (List Int)} {h i : Nat} {f : Flight} (hs : FlSmall cs L h) (hf : FlOk cs L h i f) : (0 ≤ f.load ∧ f.load ≤ 1000 * i) ∧ (0 ≤ f.cost ∧ f.cost ≤ 10000 * i) := by
  rw [hf.load, hf.cost]
  have gen : ∀ (g : Nat → Int) (M : Int), (∀ c, 0 ≤ g c ∧ g c ≤ M) → ∀ n : Nat, 0 ≤ sumTo g n ∧ sumTo g n ≤ M * n := by
    intro g M hg n
    induction n with
    | zero => simp [sumTo]
    | succ n ih =>
      have := hg n
      rw [sumTo, Int.natCast_succ, Int.mul_add]
      omega
  constructor
  · refine gen _ 1000 (fun c => ?_) i
    have := hs.load c
    split <;> omega
  · refine gen _ 10000 (fun c => ?_) i
    have := hs.cost c
    split <;> omega
theorem flights_ok {cs : List Carrier} {L : List (List Int)} {h : Nat} (hs : FlSmall cs L h) : ∀ (i : Nat), i ≤ 4 → ∀ f ∈ flightsTo cs L h i, FlOk cs L h i f
  | 0, _, f, hf => by
    rw [flightsTo, List.mem_singleton] at hf
    subst hf
    exact ⟨by decide, fun c hc => by omega, rfl, rfl⟩
  | i + 1, hi, f, hf => by
    have ih := flights_ok hs i (by omega)
    have keep : ∀ f ∈ flightsTo cs L h i, FlOk cs L h (i + 1) f := fun f hf => by
      have o := ih f hf
      obtain ⟨n, hn⟩ : ∃ n : Nat, f.set = n := ⟨f.set.toNat, by have := o.set; omega⟩
      have hn2 : n < 2 ^ i := by have := o.set.2; rw [hn] at this; exact_mod_cast this
      have hn3 : n < 16 := Nat.lt_of_lt_of_le hn2 (by have : 2 ^ i ≤ 2 ^ 4 := Nat.pow_le_pow_right (by omega) (by omega); omega)
      have hb : bitB f.set i = false := by
        rw [hn]; exact bit_none ⟨i, by omega⟩ ⟨n, hn3⟩ ⟨i, by omega⟩ hn2 (Nat.le_refl _)
      refine ⟨⟨o.set.1, ?_⟩, fun c hc hbc => ?_, ?_, ?_⟩
      · have := o.set.2
        have h2 : (2 : Int) ^ (i + 1) = 2 ^ i * 2 := Int.pow_succ ..
        have h3 : (0 : Int) < 2 ^ i := Int.pow_pos (by decide)
        omega
      · by_cases hci : c = i
        · rw [hci, hb] at hbc; cases hbc
        · exact o.some c (by omega) hbc
      · rw [sumTo, hb, ← o.load]; simp
      · rw [sumTo, hb, ← o.cost]; simp
    rw [flightsTo, stepFl] at hf
    split at hf
    · exact keep f hf
    · rename_i hne
      rcases List.mem_append.1 hf with hf | hf
      · exact keep f hf
      · obtain ⟨g, hg, rfl⟩ := List.mem_map.1 hf
        have o := ih g hg
        have sm := o.small hs
        obtain ⟨n, hn⟩ : ∃ n : Nat, g.set = n := ⟨g.set.toNat, by have := o.set; omega⟩
        have hn2 : n < 2 ^ i := by have := o.set.2; rw [hn] at this; exact_mod_cast this
        have hn3 : n < 16 := Nat.lt_of_lt_of_le hn2 (by have : 2 ^ i ≤ 2 ^ 4 := Nat.pow_le_pow_right (by omega) (by omega); omega)
        have hbt : ∀ c, c ≤ i → bitB (bOr .i64 g.set (bShl .i64 1 (i : Int))) c = (bitB g.set c || c == i) := fun c hc => by
          rw [hn]; exact (bit_or ⟨i, by omega⟩ ⟨n, hn3⟩ ⟨c, by omega⟩ hn2).1
        have hrg := (bit_or ⟨i, by omega⟩ ⟨n, hn3⟩ ⟨i, by omega⟩ hn2).2
        dsimp only at hrg
        rw [← hn] at hrg
        have l1 := hs.load i
        have l2 := hs.cost i
        have hi4 : (i : Int) ≤ 3 := by omega
        rw [addF]
        refine ⟨hrg, fun c hc hbc => ?_, ?_, ?_⟩
        · rw [hbt c (by omega)] at hbc
          by_cases hci : c = i
          · rw [hci]; exact hne
          · have : (c == i) = false := by simpa using hci
            rw [this, Bool.or_false] at hbc
            exact o.some c (by omega) hbc
        · dsimp only
          rw [sumTo, hbt i (Nat.le_refl _)]
          simp only [beq_self_eq_true, Bool.or_true, if_true]
          have e : sumTo (fun c => if bitB (bOr .i64 g.set (bShl .i64 1 (i : Int))) c = true then ldAt L c h else 0) i = g.load := by
            rw [o.load]
            refine sumTo_congr fun c hc => ?_
            have : (c == i) = false := by simp; omega
            rw [hbt c (by omega), this, Bool.or_false]
          rw [e]
          change wr (g.load + ldAt L i h) = _
          exact wr_small (by omega)
        · dsimp only
          rw [sumTo, hbt i (Nat.le_refl _)]
          simp only [beq_self_eq_true, Bool.or_true, if_true]
          have e : sumTo (fun c => if bitB (bOr .i64 g.set (bShl .i64 1 (i : Int))) c = true then (cs.getD c noCarrier).cost else 0) i = g.cost := by
            rw [o.cost]
            refine sumTo_congr fun c hc => ?_
            have : (c == i) = false := by simp; omega
            rw [hbt c (by omega), this, Bool.or_false]
          rw [e]
          exact wr_small (by omega)
end Go.Ab
namespace Go.Ab
open Go.RowKit Go.Proofs
theorem carr_good {s : Supply} (h : suppE s = 0) {c : Carrier} (hc : c ∈ s.carr) : ((0 ≤ c.lift ∧ c.lift ≤ 1000) ∧ (0 ≤ c.heat ∧ c.heat ≤ 50) ∧ (0 ≤ c.cost ∧ c.cost ≤ 10000)) ∧ limB c.lim = true := by
  rw [suppE, if_pos (supp_look h)] at h
  split at h
  · cases h
  · split at h
    · cases h
    · rename_i h2
      simp only [carrsBad, Bool.or_eq_true, not_or, Bool.not_eq_true] at h2
      have := h2.2
      rw [List.any_eq_false] at this
      have h3 := this c hc
      simp only [carrBad, Bool.or_eq_true, not_or, Bool.not_eq_true, Bool.not_eq_false'] at h3
      exact ⟨⟨within_iff.1 h3.1, within_iff.1 h3.2.1, within_iff.1 h3.2.2.1⟩, h3.2.2.2⟩
theorem store_good {s : Supply} (h : suppE s = 0) : (0 ≤ s.room ∧ s.room ≤ 5000) ∧ (0 ≤ s.stock ∧ s.stock ≤ s.room) ∧ (0 ≤ s.reserve ∧ s.reserve ≤ s.room) ∧ (0 ≤ s.use.lo ∧ s.use.lo ≤ s.use.hi ∧ s.use.hi ≤ 500) := by
  rw [suppE, if_pos (supp_look h)] at h
  split at h
  · cases h
  · rename_i h2
    have h3 : storeBad s = false := by simpa using h2
    simp only [storeBad, Bool.or_eq_false_iff, Bool.not_eq_false'] at h3
    exact ⟨within_iff.1 h3.1, within_iff.1 h3.2.1, within_iff.1 h3.2.2.1, ordered_iff.1 h3.2.2.2⟩
theorem loadOf_range {s : Supply} (h : suppE s = 0) {c : Carrier} (hc : c ∈ s.carr) {t : Nat} (ht : t < s.hours) : loadOf s.scens c t = max 0 (c.lift - c.heat * heatF s.scens t) ∧ 0 ≤ loadOf s.scens c t ∧ loadOf s.scens c t ≤ 1000 := by
  obtain ⟨hg, hsi, hp, _⟩ := look_all (supp_look h)
  have hh := heat_high hg hsi hp ht
  have hl := heat_low s.scens t
  obtain ⟨⟨r1, r2, r3⟩, _⟩ := carr_good h hc
  change heatF s.scens t ≤ 50 at hh
  have m2 : 0 ≤ c.heat * heatF s.scens t := Int.mul_nonneg r2.1 hl
  have m3 : c.heat * heatF s.scens t ≤ 50 * 50 := Int.mul_le_mul r2.2 hh hl (by decide)
  have e : loadOf s.scens c t = max 0 (c.lift - c.heat * heatF s.scens t) := by
    unfold loadOf wr
    rw [wr_small (x := c.heat * heatF s.scens t) (by omega), wr_small (by omega)]
  rw [e]
  exact ⟨rfl, by omega, by omega⟩
theorem ldAt_eq {s : Supply} {c : Nat} {k : Carrier} (hc : s.carr[c]? = some k) {t : Nat} (ht : t < s.hours) : ldAt s.loads c t = if inSp (sureC s.scens s.hours k) t then loadOf s.scens k t else 0 := by
  have : s.loads.getD c [] = loadRow s.scens s.hours k := by simp [Supply.loads, List.getD, hc]
  rw [ldAt, this, getI, loadRow, List.getD, show ((t : Int)).toNat = t by omega, rowQ_at _ _ ht]
  rfl
theorem ldAt_none {s : Supply} {c : Nat} (hc : s.carr[c]? = none) (t : Nat) : ldAt s.loads c t = 0 := by
  have : s.loads.getD c [] = [] := by simp [Supply.loads, List.getD, hc]
  rw [ldAt, this]
  rfl
theorem ldAt_late {s : Supply} (c : Nat) {t : Nat} (ht : s.hours ≤ t) : ldAt s.loads c t = 0 := by
  cases hc : s.carr[c]? with
  | none => exact ldAt_none hc t
  | some k =>
    have : s.loads.getD c [] = loadRow s.scens s.hours k := by simp [Supply.loads, List.getD, hc]
    have hl : (loadRow s.scens s.hours k).length = s.hours := rowQ_len _ _ _
    rw [ldAt, this, getI, List.getD, show ((t : Int)).toNat = t by omega, List.getElem?_eq_none (by omega)]
    rfl
theorem ldAt_range {s : Supply} (h : suppE s = 0) (c t : Nat) : 0 ≤ ldAt s.loads c t ∧ ldAt s.loads c t ≤ 1000 := by
  by_cases ht : t < s.hours
  · cases hc : s.carr[c]? with
    | none => rw [ldAt_none hc]; decide
    | some k =>
      rw [ldAt_eq hc ht]
      have := loadOf_range h (List.mem_of_getElem? hc) ht
      split <;> omega
  · rw [ldAt_late c (by omega)]; decide
theorem fl_small {s : Supply} (h : suppE s = 0) (t : Nat) : FlSmall s.carr s.loads t := by
  refine ⟨fun c => ldAt_range h c t, fun c => ?_⟩
  cases hc : s.carr[c]? with
  | none => simp [List.getD, hc, noCarrier]
  | some k =>
    have := (carr_good h (List.mem_of_getElem? hc)).1.2.2
    simpa [List.getD, hc] using this
theorem fits_iff {s : Supply} (h0 : suppE s = 0) {h : Nat} {b : Int} (hh : h ≤ 48) (hb : 0 ≤ b ∧ b ≤ 100000000) : fitsB6 s h b = true ↔ s.stock + b - h * s.use.lo ≤ s.room := by
  obtain ⟨r1, r2, r3, r4⟩ := store_good h0
  have m1 : 0 ≤ (h : Int) * s.use.lo := Int.mul_nonneg (by omega) r4.1
  have m2 : (h : Int) * s.use.lo ≤ 48 * 500 := Int.mul_le_mul (by omega) (by omega) r4.1 (by decide)
  unfold fitsB6 wr
  rw [wr_small (x := s.stock + b) (by omega), wr_small (x := (h : Int) * s.use.lo) (by omega), wr_small (by omega), decide_eq_true_iff]
theorem suff_iff {s : Supply} (h0 : suppE s = 0) {h : Nat} {b : Int} (hh : h ≤ 48) (hb : 0 ≤ b ∧ b ≤ 100000000) : suffB s h b = true ↔ s.reserve ≤ s.stock + b - (h + 1) * s.use.hi := by
  obtain ⟨r1, r2, r3, r4⟩ := store_good h0
  have m1 : 0 ≤ ((h : Int) + 1) * s.use.hi := Int.mul_nonneg (by omega) (by omega)
  have m2 : ((h : Int) + 1) * s.use.hi ≤ 49 * 500 := Int.mul_le_mul (by omega) (by omega) (by omega) (by decide)
  unfold suffB wr
  rw [wr_small (x := s.stock + b) (by omega), wr_small (x := (h : Int) + 1) (by omega), wr_small (x := ((h : Int) + 1) * s.use.hi) (by omega), wr_small (by omega), decide_eq_true_iff]
theorem fls_iff {s : Supply} {L : List (List Int)} {h : Nat} {b : Int} {f : Flight} : f ∈ fls s L h b ↔ f ∈ flightsTo s.carr L h L.length ∧ fitsB6 s h (wr (b + f.load)) = true ∧ suffB s h (wr (b + f.load)) = true := by
  rw [fls, nextF, List.mem_filter, okFl, Bool.and_eq_true]
theorem fls_ok {s : Supply} (h0 : suppE s = 0) {h : Nat} {b : Int} (hh : h ≤ 48) (hb : 0 ≤ b ∧ b ≤ 4000 * h) {f : Flight} (hf : f ∈ fls s s.loads h b) :
    FlOk s.carr s.loads h s.carr.length f ∧ wr (b + f.load) = b + f.load ∧ (0 ≤ b + f.load ∧ b + f.load ≤ 4000 * ((h + 1 : Nat) : Int)) ∧ s.stock + (b + f.load) - h * s.use.lo ≤ s.room ∧ s.reserve ≤ s.stock + (b + f.load) - (h + 1) * s.use.hi := by
  obtain ⟨h1, h2, h3⟩ := fls_iff.1 hf
  have h6 := small6 h0
  have hl := h6.few
  have o := flights_ok (fl_small h0 h) s.loads.length hl f h1
  have sm := o.small (fl_small h0 h)
  have hl2 : (s.loads.length : Int) ≤ 4 := by omega
  have e : wr (b + f.load) = b + f.load := wr_small (by omega)
  rw [e] at h2 h3
  have hbb : 0 ≤ b + f.load ∧ b + f.load ≤ 100000000 := by omega
  rw [h6.len] at o
  exact ⟨o, e, by omega, (fits_iff h0 hh hbb).1 h2, (suff_iff h0 hh hbb).1 h3⟩
structure PlanOk (s : Supply) (F : Nat → Flight) (B : Nat → Int) : Prop where
  zero : B 0 = 0
  fl : ∀ j < s.hours, FlOk s.carr s.loads j s.carr.length (F j)
  next : ∀ j < s.hours, B (j + 1) = B j + (F j).load
  range : ∀ j ≤ s.hours, 0 ≤ B j ∧ B j ≤ 4000 * j
  fits : ∀ j < s.hours, s.stock + B (j + 1) - j * s.use.lo ≤ s.room
  suff : ∀ j < s.hours, s.reserve ≤ s.stock + B (j + 1) - (j + 1) * s.use.hi
theorem fold_better (k : Flight → Option Int) : ∀ (l : List Flight) (a : Option Int),
    (∀ c, l.foldl (fun a f => betterC a f (k f)) a = some c → a = some c ∨ ∃ f ∈ l, ∃ w, k f = some w ∧ c = wr (f.cost + w)) ∧
    (∀ v, a = some v → ∃ c, l.foldl (fun a f => betterC a f (k f)) a = some c ∧ c ≤ v) ∧
    (∀ f ∈ l, ∀ w, k f = some w → ∃ c, l.foldl (fun a f => betterC a f (k f)) a = some c ∧ c ≤ wr (f.cost + w))
  | [], a => ⟨fun c h => .inl h, fun v h => ⟨v, h, Int.le_refl _⟩, fun f hf => by cases hf⟩
  | f :: l, a => by
    rw [List.foldl_cons]
    obtain ⟨h1, h2, h3⟩ := fold_better k l (betterC a f (k f))
    refine ⟨fun c hc => ?_, fun v hv => ?_, fun g hg w hw => ?_⟩
    · rcases h1 c hc with h | ⟨g, hg, w, hw, he⟩
      · cases hk : k f with
        | none => rw [hk] at h; exact .inl h
        | some w =>
          rw [hk] at h
          cases a with
          | none =>
            simp only [betterC] at h
            exact .inr ⟨f, List.mem_cons_self, w, hk, (Option.some.inj h).symm⟩
          | some v =>
            simp only [betterC] at h
            split at h
            · exact .inr ⟨f, List.mem_cons_self, w, hk, (Option.some.inj h).symm⟩
            · exact .inl h
      · exact .inr ⟨g, List.mem_cons_of_mem _ hg, w, hw, he⟩
    · subst hv
      cases hk : k f with
      | none => rw [hk] at h2; exact h2 v rfl
      | some w =>
        rw [hk] at h2
        by_cases hlt : wr (f.cost + w) < v
        · obtain ⟨c, hc, hl⟩ := h2 (wr (f.cost + w)) (by simp only [betterC, if_pos hlt])
          exact ⟨c, hc, by omega⟩
        · exact h2 v (by simp only [betterC, if_neg hlt])
    · rcases List.mem_cons.1 hg with rfl | hg
      · rw [hw] at h2 ⊢
        cases a with
        | none => exact h2 _ rfl
        | some v =>
          by_cases hlt : wr (g.cost + w) < v
          · exact h2 _ (by simp only [betterC, if_pos hlt])
          · obtain ⟨c, hc, hl⟩ := h2 v (by simp only [betterC, if_neg hlt])
            exact ⟨c, hc, by omega⟩
      · exact h3 g hg w hw
theorem costF_some {s : Supply} (h0 : suppE s = 0) : ∀ (n : Nat), n ≤ s.hours → ∀ (b c : Int), 0 ≤ b ∧ b ≤ 4000 * ((s.hours - n : Nat) : Int) → costF s s.loads s.hours n b = some c →
    (0 ≤ c ∧ c ≤ 40000 * n) ∧ ∀ m, n = m + 1 → ∃ f ∈ fls s s.loads (s.hours - n) b, ∃ w, costF s s.loads s.hours m (b + f.load) = some w ∧ c = f.cost + w
  | 0, _, b, c, _, hc => by
    rw [costF] at hc
    cases hc
    exact ⟨by simp, fun m hm => by omega⟩
  | n + 1, hn, b, c, hb, hc => by
    have hH := (small6 h0).hours
    rw [costF] at hc
    rcases (fold_better _ _ none).1 c hc with h | ⟨f, hf, w, hw, he⟩
    · cases h
    · have o := fls_ok h0 (by omega) hb hf
      rw [o.2.1] at hw
      have hb2 := o.2.2.1
      rw [show s.hours - (n + 1) + 1 = s.hours - n by omega] at hb2
      have hr := (costF_some h0 n (by omega) _ w hb2 hw).1
      have sm := (o.1.small (fl_small h0 _)).2
      have hfew := (small6 h0).few
      have hln := (small6 h0).len
      have e : c = f.cost + w := by rw [he]; exact wr_small (by omega)
      exact ⟨by omega, fun m hm => by
        have hm2 : m = n := by omega
        rw [hm2]
        exact ⟨f, hf, w, hw, e⟩⟩
structure EasierS (s t : Supply) : Prop where
  scen : t.scen = s.scen
  seen : t.seen = s.seen
  stock : t.stock = s.stock
  use : t.use = s.use
  reserve : t.reserve ≤ s.reserve
  room : s.room ≤ t.room
  carr : ∀ (i : Nat) c, s.carr[i]? = some c → ∃ c', t.carr[i]? = some c' ∧ c'.lift = c.lift ∧ c'.heat = c.heat ∧ c'.lim = c.lim ∧ c'.cost ≤ c.cost
theorem EasierS.len {s t : Supply} (e : EasierS s t) : s.carr.length ≤ t.carr.length := by
  by_cases h : s.carr.length = 0
  · omega
  · obtain ⟨c', hc, _⟩ := e.carr (s.carr.length - 1) _ (List.getElem?_eq_getElem (by omega))
    have := (List.getElem?_eq_some_iff.1 hc).1
    omega
theorem EasierS.load {s t : Supply} (e : EasierS s t) {i : Nat} (hi : i < s.carr.length) (h : Nat) : ldAt t.loads i h = ldAt s.loads i h := by
  have e1 : t.scens = s.scens := by rw [Supply.scens, Supply.scens, e.scen, e.seen]
  have e2 : t.hours = s.hours := by rw [Supply.hours, Supply.hours, e.scen]
  obtain ⟨c, hc⟩ : ∃ c, s.carr[i]? = some c := ⟨_, List.getElem?_eq_getElem hi⟩
  obtain ⟨c', hc', h1, h2, h3, _⟩ := e.carr i c hc
  by_cases hh : h < s.hours
  · rw [ldAt_eq hc hh, ldAt_eq hc' (by rw [e2]; exact hh), e1, e2]
    unfold sureC loadOf
    rw [h1, h2, h3]
  · rw [ldAt_late i (by omega), ldAt_late i (by omega)]
theorem EasierS.flights {s t : Supply} (e : EasierS s t) (h0 : suppE s = 0) (h1 : suppE t = 0) (h : Nat) : ∀ i ≤ s.carr.length, ∀ f ∈ flightsTo s.carr s.loads h i, ∃ f' ∈ flightsTo t.carr t.loads h i, f'.load = f.load ∧ f'.cost ≤ f.cost
  | 0, _, f, hf => ⟨f, hf, rfl, Int.le_refl _⟩
  | i + 1, hi, f, hf => by
    have h6 := small6 h0
    have h6' := small6 h1
    have hfew := h6.few
    have hln := h6.len
    have hfew' := h6'.few
    have hln' := h6'.len
    have hle := e.len
    have ih := e.flights h0 h1 h i (by omega)
    have hl := e.load (i := i) (by omega) h
    rw [flightsTo, stepFl] at hf ⊢
    change f ∈ if ldAt s.loads i h = 0 then _ else _ at hf
    change ∃ f' ∈ if ldAt t.loads i h = 0 then _ else _, _
    rw [hl]
    split at hf
    · rename_i hz
      rw [if_pos hz]
      exact ih f hf
    · rename_i hz
      rw [if_neg hz]
      rcases List.mem_append.1 hf with hf | hf
      · obtain ⟨f', hf', hx⟩ := ih f hf
        exact ⟨f', List.mem_append.2 (.inl hf'), hx⟩
      · obtain ⟨g, hg, rfl⟩ := List.mem_map.1 hf
        obtain ⟨g', hg', h2, h3⟩ := ih g hg
        refine ⟨_, List.mem_append.2 (.inr (List.mem_map_of_mem hg')), ?_, ?_⟩
        · change wr (g'.load + ldAt t.loads i h) = wr (g.load + ldAt s.loads i h)
          rw [h2, hl]
        · have o := (flights_ok (fl_small h0 h) i (by omega) g hg).small (fl_small h0 h)
          have o' := (flights_ok (fl_small h1 h) i (by omega) g' hg').small (fl_small h1 h)
          have c1 := (fl_small h0 h).cost i
          have c2 := (fl_small h1 h).cost i
          have hi4 : (i : Int) ≤ 4 := by omega
          change wr (g'.cost + (t.carr.getD i noCarrier).cost) ≤ wr (g.cost + (s.carr.getD i noCarrier).cost)
          unfold wr
          rw [wr_small (by omega), wr_small (by omega)]
          obtain ⟨c, hc⟩ : ∃ c, s.carr[i]? = some c := ⟨_, List.getElem?_eq_getElem (by omega)⟩
          obtain ⟨c', hc', _, _, _, hle2⟩ := e.carr i c hc
          have e1 : s.carr.getD i noCarrier = c := by simp [List.getD, hc]
          have e2 : t.carr.getD i noCarrier = c' := by simp [List.getD, hc']
          rw [e1, e2]
          omega
theorem flights_more (cs : List Carrier) (L : List (List Int)) (h : Nat) {i j : Nat} (hij : i ≤ j) : ∀ f ∈ flightsTo cs L h i, f ∈ flightsTo cs L h j := by
  induction hij with
  | refl => exact fun f hf => hf
  | step _ ih =>
    intro f hf
    rw [flightsTo, stepFl]
    split
    · exact ih f hf
    · exact List.mem_append.2 (.inl (ih f hf))
theorem EasierS.cost {s t : Supply} (e : EasierS s t) (h0 : suppE s = 0) (h1 : suppE t = 0) : ∀ (n : Nat), n ≤ s.hours → ∀ (b c : Int), 0 ≤ b ∧ b ≤ 4000 * ((s.hours - n : Nat) : Int) → costF s s.loads s.hours n b = some c →
    ∃ c', costF t t.loads t.hours n b = some c' ∧ c' ≤ c
  | 0, _, b, c, _, hc => ⟨c, by rw [costF] at hc ⊢; exact hc, Int.le_refl _⟩
  | n + 1, hn, b, c, hb, hc => by
    have e2 : t.hours = s.hours := by rw [Supply.hours, Supply.hours, e.scen]
    have hH := (small6 h0).hours
    obtain ⟨_, hx⟩ := costF_some h0 (n + 1) hn b c hb hc
    obtain ⟨f, hf, w, hw, rfl⟩ := hx n rfl
    have o := fls_ok h0 (by omega) hb hf
    have hb2 := o.2.2.1
    rw [show s.hours - (n + 1) + 1 = s.hours - n by omega] at hb2
    obtain ⟨w', hw', hle⟩ := e.cost h0 h1 n (by omega) _ w hb2 hw
    have hrw := (costF_some h0 n (by omega) _ w hb2 hw).1
    have hrw' := (costF_some h1 n (by omega) _ w' (by rw [e2]; exact hb2) hw').1
    obtain ⟨g1, g2, g3⟩ := fls_iff.1 hf
    rw [(small6 h0).len] at g1
    obtain ⟨f', hf', q1, q2⟩ := e.flights h0 h1 _ _ (Nat.le_refl _) f g1
    have hlen := e.len
    have hf2 : f' ∈ flightsTo t.carr t.loads (t.hours - (n + 1)) t.loads.length := by
      rw [(small6 h1).len, e2]
      exact flights_more _ _ _ hlen f' hf'
    have hbb : 0 ≤ b + f.load ∧ b + f.load ≤ 100000000 := by omega
    have k1 := o.2.2.2.1
    have k2 := o.2.2.2.2
    have er := e.reserve
    have em := e.room
    have hf3 : f' ∈ fls t t.loads (t.hours - (n + 1)) b := by
      refine fls_iff.2 ⟨hf2, ?_, ?_⟩
      · rw [q1, o.2.1, fits_iff h1 (by omega) hbb, e.stock, e.use, e2]
        omega
      · rw [q1, o.2.1, suff_iff h1 (by omega) hbb, e.stock, e.use, e2]
        omega
    have o' := fls_ok h1 (by omega) (by rw [e2]; exact hb) hf3
    have sm := (o.1.small (fl_small h0 _)).2
    have sm' := (o'.1.small (fl_small h1 _)).2
    have hfew := (small6 h0).few
    have hln := (small6 h0).len
    have hfew' := (small6 h1).few
    have hln' := (small6 h1).len
    rw [costF]
    obtain ⟨c, hc1, hc2⟩ := (fold_better (fun f => costF t t.loads t.hours n (wr (b + f.load))) (fls t t.loads (t.hours - (n + 1)) b) none).2.2 f' hf3 w' (by rw [q1, o.2.1]; exact hw')
    refine ⟨c, hc1, ?_⟩
    have e3 : wr (f'.cost + w') = f'.cost + w' := wr_small (by omega)
    rw [e3] at hc2
    omega
end Go.Ab
namespace Go.Ab
open Go.RowKit Go.Proofs
end Go.Ab
namespace Go.Ab
open Go.RowKit Go.Proofs
set_option maxHeartbeats 16000000
set_option maxRecDepth 20000
attribute [local irreducible] WalkL Walk
def trBad (s : Supply) (i : Nat) (p t : Int × Int) : Bool := !withinB t.1 0 ((s.hours : Int) - 1) || (!withinB t.2 0 ((s.carr.length : Int) - 1) || (ldAt s.loads t.2.toNat t.1.toNat == 0 || (decide ((i : Int) > 0) && (decide (t.1 < p.1) || (t.1 == p.1 && decide (t.2 ≤ p.2))))))
def trFrom (s : Supply) : List (Int × Int) → Nat → Int × Int → Bool
  | [], _, _ => true
  | t :: l, i, p => if trBad s i p t then false else trFrom s l (i + 1) t
def tripsB (s : Supply) (T : List (Int × Int)) : Bool := trFrom s T 0 (0, 0) && decide ((T.length : Int) ≤ 192)
structure TripGood (s : Supply) (T : List (Int × Int)) : Prop where
  at' : ∀ t ∈ T, ∃ h c : Nat, t = ((h : Int), (c : Int)) ∧ h < s.hours ∧ c < s.carr.length
  len : T.length ≤ 192
def ofTrip (s : Supply) (h : Nat) (t : Int × Int) : Int := if t.1 = (h : Int) then ldAt s.loads t.2.toNat h else 0
def brought (s : Supply) : List (Int × Int) → Nat → Int
  | [], _ => 0
  | t :: T, h => ofTrip s h t + brought s T h
def arrL (s : Supply) (T : List (Int × Int)) : List Int := (List.range s.hours).map (brought s T)
end Go.Ab
namespace Go.Ab
open Go.RowKit Go.Proofs
set_option maxHeartbeats 16000000
set_option maxRecDepth 20000
attribute [local irreducible] WalkL Walk
def stockAt (s : Supply) (T : List (Int × Int)) (u : Nat → Int) : Nat → Int
  | 0 => s.stock
  | k + 1 => stockAt s T u k + (brought s T k - u k)
def uAt (U : List Int) (k : Nat) : Int := getI U (k : Int)
def openE6 (s : Supply) (T : List (Int × Int)) : Int := openT6 s (tripsB s T) true
def stocksE (s : Supply) (T : List (Int × Int)) (U : List Int) : Int := if openE6 s T = 0 then (if usesB s U then 0 else 63) else openE6 s T
def stocksL (s : Supply) (T : List (Int × Int)) (U : List Int) : List Int := rowQ (fun k => stockAt s T (uAt U) (k + 1)) s.hours fun _ => true
end Go.Ab
namespace Go.Ab
open Go.RowKit Go.Proofs
set_option maxHeartbeats 16000000
set_option maxRecDepth 20000
attribute [local irreducible] WalkL Walk
def kU (u : Int) : Nat → Int := fun _ => u
def lvl (s : Supply) (T : List (Int × Int)) (u : Int) (k : Nat) : Int := stockAt s T (kU u) k
def shortB (s : Supply) (T : List (Int × Int)) (u : Nat → Int) : Nat → Bool
  | 0 => false
  | n + 1 => shortB s T u n || decide (stockAt s T u (n + 1) < s.reserve)
def cntN (s : Supply) (T : List (Int × Int)) (u : Nat → Int) : Nat → Nat
  | 0 => 0
  | n + 1 => if shortB s T u (n + 1) then cntN s T u n else cntN s T u n + 1
def fitsA (s : Supply) (T : List (Int × Int)) (u : Int) : Nat → Bool
  | 0 => true
  | n + 1 => fitsA s T u n && decide (lvl s T u n + brought s T n ≤ s.room)
def cumB (s : Supply) (T : List (Int × Int)) : Nat → Int
  | 0 => 0
  | n + 1 => cumB s T n + brought s T n
def lastsP6 (s : Supply) (T : List (Int × Int)) : Int × Int × Bool × Int := if openE6 s T = 0 then ((cntN s T (kU s.use.hi) s.hours : Int), (cntN s T (kU s.use.lo) s.hours : Int), fitsA s T s.use.lo s.hours, 0) else (0, 0, false, openE6 s T)
end Go.Ab
namespace Go.Ab
open Go.RowKit Go.Proofs
set_option maxHeartbeats 16000000
set_option maxRecDepth 20000
attribute [local irreducible] WalkL Walk
def updI {α : Type} (f : Nat → α → α) (l : List α) (k : Nat) : List α := (l.take k).mapIdx f ++ l.drop k
theorem updI_len {α : Type} (f : Nat → α → α) (l : List α) (k : Nat) : (updI f l k).length = l.length := by simp [updI]; omega
theorem updI_zero {α : Type} (f : Nat → α → α) (l : List α) : updI f l 0 = l := by simp [updI]
theorem updI_all {α : Type} (f : Nat → α → α) (l : List α) : updI f l l.length = l.mapIdx f := by simp [updI]
theorem updI_get {α : Type} (f : Nat → α → α) {l : List α} {k : Nat} {x : α} (h : l[k]? = some x) : (updI f l k)[k]? = some x := by
  have hk := (List.getElem?_eq_some_iff.1 h).1
  have h1 : ((l.take k).mapIdx f).length = k := by simp; omega
  unfold updI
  rw [List.getElem?_append_right (by omega), h1, Nat.sub_self, drop_get h]
  rfl
theorem updI_set {α : Type} (f : Nat → α → α) {l : List α} {k : Nat} {x : α} (h : l[k]? = some x) : (updI f l k).set k (f k x) = updI f l (k + 1) := by
  have hk := (List.getElem?_eq_some_iff.1 h).1
  have h1 : ((l.take k).mapIdx f).length = k := by simp; omega
  have h2 : (l.take k).length = k := by simp; omega
  unfold updI
  rw [List.set_append_right _ _ (by omega), h1, Nat.sub_self, drop_get h, List.set_cons_zero, List.take_add_one, h, Option.toList_some, List.mapIdx_append, h2]
  simp
end Go.Ab
namespace Go.Ab
open Go.RowKit Go.Proofs
set_option maxHeartbeats 4000000
set_option maxRecDepth 20000
def allTo (b : List Bool) (h j : Nat) : Bool := ((b.drop h).take j).all id
theorem allTo_succ {b : List Bool} {h j : Nat} {x : Bool} (hx : b[h + j]? = some x) : allTo b h (j + 1) = (allTo b h j && x) := by
  unfold allTo
  rw [List.take_add_one, List.getElem?_drop, hx, List.all_append]
  simp
theorem allTo_iff {b : List Bool} {h n : Nat} (hl : h + n ≤ b.length) : allTo b h n = true ↔ IsBegin b n h := by
  unfold allTo IsBegin
  rw [List.all_eq_true]
  constructor
  · intro ha k h1 h2
    obtain ⟨x, hx⟩ : ∃ x, b[k]? = some x := ⟨_, List.getElem?_eq_getElem (by omega)⟩
    have hm : x ∈ (b.drop h).take n := by
      refine List.mem_of_getElem? (i := k - h) ?_
      rw [List.getElem?_take, if_pos (by omega), List.getElem?_drop, show h + (k - h) = k by omega, hx]
    have := ha x hm
    rw [hx]
    simpa using this
  · intro ha x hx
    obtain ⟨i, hi⟩ := List.getElem?_of_mem hx
    rw [List.getElem?_take] at hi
    split at hi
    · rw [List.getElem?_drop, ha (h + i) (by omega) (by omega)] at hi
      cases hi
      rfl
    · cases hi
end Go.Ab
namespace Go.Ab
open Go.RowKit Go.Proofs
set_option maxHeartbeats 8000000
set_option maxRecDepth 20000
attribute [local irreducible] WalkL Walk
theorem zf115 (b : List Bool) (n : Int) (hn : 1 ≤ n ∧ n ≤ 1000) (hl : b.length < 2 ^ 30) : Fn Tryz.prog 115 [.sl (boolRows b), .i n] (.i (beginsF b n)) := by
  obtain ⟨N, hN⟩ : ∃ N : Nat, n = N := ⟨n.toNat, by omega⟩
  subst hN
  have hN1 : 1 ≤ N := by omega
  refine fn_walk 33 Tryz.call115 Tryz.func115 rfl (by decide) fun J => ?_
  simp (maxSteps := 4000000) only [go_sem, St.start, Tryz.ntmps115, Tryz.results115]
  repeat (first | refine walkL_seq ?_ | refine walkL_skip ?_ | refine walkL_block ?_ | (refine walkL_region fun K hK => ?_; simp (maxSteps := 4000000) only [go_sem]; refine hK _ ?_; clear hK K) | refine walkL_nil ?_ | refine walkL_ret ?_ | refine walkL_exit ?_ | refine blockA_here ?_ | refine blockA_other rfl ?_ | refine blockA_ret ?_ | refine blockA_normal ?_ | refine thenA_ret ?_ | refine thenA_exit ?_ | refine thenA_normal ?_)
  refine walkL_loopS (fun (h : Nat) => [(5, .d (.i h)), (6, .undef), (7, .undef)]) (fun _ => []) (fun h => h ≤ b.length ∧ ∀ h' < h, ¬ IsBegin b N h') (fun h => b.length - h) 0 ?_ ⟨Nat.zero_le _, fun _ h => by omega⟩ ?_
  · simp (maxSteps := 4000000) only [go_sem]
    refine weak_of [] ?_ ?_ rfl rfl <;> simp [lessT, lessM, lessB, AV.less]
    all_goals first | done | rfl
  · intro h ⟨hh, hno⟩
    have w1 : IntKind.i64.wrap ((h : Int) + (N : Int)) = ((h + N : Nat) : Int) := by rw [wr_small (by omega)]; simp
    simp (maxSteps := 4000000) only [go_sem]
    repeat (first | refine walkL_seq ?_ | refine walkL_skip ?_ | refine walkL_block ?_ | (refine walkL_region fun K hK => ?_; simp (maxSteps := 4000000) only [go_sem, w1, boolRows_len]; refine hK _ ?_; clear hK K) | refine walkL_nil ?_ | refine walkL_ret ?_ | refine walkL_exit ?_ | refine blockA_here ?_ | refine blockA_other rfl ?_ | refine blockA_ret ?_ | refine blockA_normal ?_ | refine thenA_ret ?_ | refine thenA_exit ?_ | refine thenA_normal ?_)
    refine walkL_cond rfl (fun hb => ?_) (fun hb => ?_)
    · have hle : h + N ≤ b.length := by have := of_decide_eq_true hb; omega
      have hw : IntKind.i64.wrap ((h : Int) + 1) = ((h + 1 : Nat) : Int) := by rw [wr_small (by omega)]; simp
      repeat (first | refine walkL_seq ?_ | refine walkL_skip ?_ | refine walkL_block ?_ | (refine walkL_region fun K hK => ?_; simp (maxSteps := 4000000) only [go_sem]; refine hK _ ?_; clear hK K) | refine walkL_nil ?_ | refine walkL_ret ?_ | refine walkL_exit ?_ | refine blockA_here ?_ | refine blockA_other rfl ?_ | refine blockA_ret ?_ | refine blockA_normal ?_ | refine thenA_ret ?_ | refine thenA_exit ?_ | refine thenA_normal ?_)
      refine walkL_loopS (fun (j : Nat) => [(7, .d (.i ((h + j : Nat) : Int))), (6, .d (.bool (allTo b h j)))]) (fun _ => []) (fun j => j ≤ N) (fun j => N - j) 0 ?_ (Nat.zero_le _) ?_
      · simp (maxSteps := 4000000) only [go_sem]
        refine weak_of [] ?_ ?_ rfl rfl <;> simp [lessT, lessM, lessB, AV.less]
        all_goals first | done | rfl
      · intro j hj
        simp (maxSteps := 4000000) only [go_sem]
        repeat (first | refine walkL_seq ?_ | refine walkL_skip ?_ | refine walkL_block ?_ | (refine walkL_region fun K hK => ?_; simp (maxSteps := 4000000) only [go_sem, w1]; refine hK _ ?_; clear hK K) | refine walkL_nil ?_ | refine walkL_ret ?_ | refine walkL_exit ?_ | refine blockA_here ?_ | refine blockA_other rfl ?_ | refine blockA_ret ?_ | refine blockA_normal ?_ | refine thenA_ret ?_ | refine thenA_exit ?_ | refine thenA_normal ?_)
        refine walkL_cond rfl (fun hb => ?_) (fun hb => ?_)
        · have hlt : j < N := by have := of_decide_eq_true hb; omega
          have hwj : IntKind.i64.wrap (((h + j : Nat) : Int) + 1) = ((h + (j + 1) : Nat) : Int) := by rw [wr_small (by omega)]; omega
          obtain ⟨x, hx⟩ : ∃ x, b[h + j]? = some x := ⟨_, List.getElem?_eq_getElem (by omega)⟩
          have g1 := boolRows_at hx
          have hnx := allTo_succ hx
          cases q : allTo b h j
          · rw [q, Bool.false_and] at hnx
            repeat (first | refine walkL_true rfl ?_ | refine walkL_false rfl ?_ | refine walkL_seq ?_ | refine walkL_skip ?_ | refine walkL_block ?_ | (refine walkL_region fun K hK => ?_; simp (maxSteps := 4000000) only [go_sem, hwj]; refine hK _ ?_; clear hK K) | refine walkL_nil ?_ | refine walkL_ret ?_ | refine walkL_exit ?_ | refine blockA_here ?_ | refine blockA_other rfl ?_ | refine blockA_ret ?_ | refine blockA_normal ?_ | refine thenA_ret ?_ | refine thenA_exit ?_ | refine thenA_normal ?_)
            refine ⟨rfl, j + 1, ?_, hlt, by omega⟩
            rw [hnx]
            refine weak_of [] ?_ ?_ rfl rfl <;> simp [lessT, lessM, lessB, AV.less]
          · rw [q, Bool.true_and] at hnx
            repeat (first | refine walkL_true rfl ?_ | refine walkL_false rfl ?_ | refine walkL_seq ?_ | refine walkL_skip ?_ | refine walkL_block ?_ | (refine walkL_region fun K hK => ?_; simp (maxSteps := 4000000) only [go_sem, g1, hwj]; refine hK _ ?_; clear hK K) | refine walkL_nil ?_ | refine walkL_ret ?_ | refine walkL_exit ?_ | refine blockA_here ?_ | refine blockA_other rfl ?_ | refine blockA_ret ?_ | refine blockA_normal ?_ | refine thenA_ret ?_ | refine thenA_exit ?_ | refine thenA_normal ?_)
            refine ⟨rfl, j + 1, ?_, hlt, by omega⟩
            rw [hnx]
            refine weak_of [] ?_ ?_ rfl rfl <;> simp [lessT, lessM, lessB, AV.less]
        · have he : j = N := by (have : ¬ (((h + j : Nat) : Int) < ((h + N : Nat) : Int)) := by simpa using hb); omega
          subst he
          cases q : allTo b h j
          · have hnb : ¬ IsBegin b j h := fun hc => by rw [(allTo_iff hle).2 hc] at q; cases q
            repeat (first | refine walkL_true rfl ?_ | refine walkL_false rfl ?_ | refine walkL_seq ?_ | refine walkL_skip ?_ | refine walkL_block ?_ | (refine walkL_region fun K hK => ?_; simp (maxSteps := 4000000) only [go_sem, hw]; refine hK _ ?_; clear hK K) | refine walkL_nil ?_ | refine walkL_ret ?_ | refine walkL_exit ?_ | refine blockA_here ?_ | refine blockA_other rfl ?_ | refine blockA_ret ?_ | refine blockA_normal ?_ | refine thenA_ret ?_ | refine thenA_exit ?_ | refine thenA_normal ?_)
            refine ⟨rfl, h + 1, ?_, ⟨by omega, fun h' hlt' => by
              by_cases he : h' = h
              · subst he; exact hnb
              · exact hno h' (by omega)⟩, by omega⟩
            refine weak_of [] ?_ ?_ rfl rfl <;> simp [lessT, lessM, lessB, AV.less]
          · have e := begins_eq hN1 ((allTo_iff hle).1 q) hno
            rw [e]
            repeat (first | refine walkL_true rfl ?_ | refine walkL_false rfl ?_ | refine walkL_seq ?_ | refine walkL_skip ?_ | refine walkL_block ?_ | (refine walkL_region fun K hK => ?_; simp (maxSteps := 4000000) only [go_sem]; refine hK _ ?_; clear hK K) | refine walkL_nil ?_ | refine walkL_ret ?_ | refine walkL_exit ?_ | refine blockA_here ?_ | refine blockA_other rfl ?_ | refine blockA_ret ?_ | refine blockA_normal ?_ | refine thenA_ret ?_ | refine thenA_exit ?_ | refine thenA_normal ?_)
            simp (maxSteps := 4000000) only [go_sem]
    · have hgt : b.length < h + N := by (have : ¬ (((h + N : Nat) : Int) ≤ (b.length : Int)) := by simpa using hb); omega
      have e := begins_no hN1 (l := b) fun h' hc => by
        by_cases hlt : h' < h
        · exact hno h' hlt hc
        · have := (List.getElem?_eq_some_iff.1 (hc (h' + N - 1) (by omega) (by omega))).1
          omega
      rw [e]
      repeat (first | refine walkL_seq ?_ | refine walkL_skip ?_ | refine walkL_block ?_ | (refine walkL_region fun K hK => ?_; simp (maxSteps := 4000000) only [go_sem]; refine hK _ ?_; clear hK K) | refine walkL_nil ?_ | refine walkL_ret ?_ | refine walkL_exit ?_ | refine blockA_here ?_ | refine blockA_other rfl ?_ | refine blockA_ret ?_ | refine blockA_normal ?_ | refine thenA_ret ?_ | refine thenA_exit ?_ | refine thenA_normal ?_)
      simp (maxSteps := 4000000) only [go_sem]
end Go.Ab
namespace Go.Ab
open Go.RowKit Go.Proofs
set_option maxHeartbeats 8000000
set_option maxRecDepth 20000
attribute [local irreducible] WalkL Walk
theorem zf156 (l : Limits) (h : Hour) : Fn Tryz.prog 156 [.agg h.row, .agg l.row] (.bool (alwaysB l h)) := by
  refine fn_walk 37 Tryz.call156 Tryz.func156 rfl (by decide) fun J => ?_
  simp (maxSteps := 4000000) only [go_sem, St.start, Tryz.ntmps156, Tryz.results156, Limits.row, Hour.row]
  cases q1 : decide (h.wind.hi ≤ l.wind) <;> cases q2 : decide (h.rain.hi ≤ l.rain) <;> cases q3 : decide (h.temp.lo ≥ l.temp.lo)
  all_goals
    have q4 : decide (l.temp.lo ≤ h.temp.lo) = _ := q3
    repeat (first | refine walkL_seq ?_ | refine walkL_skip ?_ | refine walkL_block ?_ | (refine walkL_region fun K hK => ?_; simp (maxSteps := 4000000) only [go_sem, q1, q2, q3]; refine hK _ ?_; clear hK K) | refine walkL_nil ?_ | refine walkL_ret ?_ | refine walkL_exit ?_ | refine blockA_here ?_ | refine blockA_other rfl ?_ | refine blockA_ret ?_ | refine blockA_normal ?_ | refine thenA_ret ?_ | refine thenA_exit ?_ | refine thenA_normal ?_)
    simp (maxSteps := 4000000) only [go_sem, alwaysB, q1, q2, q4]
def mayB (l : Limits) (h : Hour) : Bool := decide (h.wind.lo ≤ l.wind) && (decide (h.rain.lo ≤ l.rain) && (decide (h.temp.lo ≤ l.temp.hi) && decide (h.temp.hi ≥ l.temp.lo)))
theorem zf157 (l : Limits) (h : Hour) : Fn Tryz.prog 157 [.agg h.row, .agg l.row] (.bool (mayB l h)) := by
  refine fn_walk 37 Tryz.call157 Tryz.func157 rfl (by decide) fun J => ?_
  simp (maxSteps := 4000000) only [go_sem, St.start, Tryz.ntmps157, Tryz.results157, Limits.row, Hour.row]
  cases q1 : decide (h.wind.lo ≤ l.wind) <;> cases q2 : decide (h.rain.lo ≤ l.rain) <;> cases q3 : decide (h.temp.lo ≤ l.temp.hi)
  all_goals
    repeat (first | refine walkL_seq ?_ | refine walkL_skip ?_ | refine walkL_block ?_ | (refine walkL_region fun K hK => ?_; simp (maxSteps := 4000000) only [go_sem, q1, q2, q3]; refine hK _ ?_; clear hK K) | refine walkL_nil ?_ | refine walkL_ret ?_ | refine walkL_exit ?_ | refine blockA_here ?_ | refine blockA_other rfl ?_ | refine blockA_ret ?_ | refine blockA_normal ?_ | refine thenA_ret ?_ | refine thenA_exit ?_ | refine thenA_normal ?_)
    simp (maxSteps := 4000000) only [go_sem, mayB, q1, q2, q3]
theorem may_ever {l : Limits} {h : Hour} (hl : l.temp.lo ≤ l.temp.hi) (hh : h.temp.lo ≤ h.temp.hi) : mayB l h = everB l h := by
  unfold mayB everB
  congr 2
  rw [← Bool.decide_and]
  apply decide_eq_decide.2
  omega
theorem seen_valsE (F : List (List Hour)) (seen : List Sight) (err : Int) (t : Bool) : (seenF F seen ≠ 0 → lookF F seen err t = seenF F seen) ∧
    (seenF F seen = 0 → ForeGood F ∧ sightsB (hd0 F).length seen = true ∧ lookF F seen err t = if err = 0 then (if t then (if (possL F seen).isEmpty then 3 else 0) else 1) else err) := by
  unfold seenF lookF
  cases hb : badF F
  · cases hq : sightsB (hd0 F).length seen
    · simp
    · simp only [Bool.false_eq_true, if_false, if_true]
      exact ⟨fun h => absurd rfl h, fun _ => ⟨fore_iff.1 hb, trivial, trivial⟩⟩
  · simp
theorem zf113 (F : List (List Hour)) (seen : List Sight) (l : Limits) (t : Bool) (hs : ForeSmall F) (hsl : seen.length < 2 ^ 30) :
    Fn Tryz.prog 113 [.agg [.sl (scenRows F)], .sl (sightRows seen), .agg l.row, .bool t] (.i (lookF F seen (limE l) t)) := by
  have h54 := zf105 F seen hs hsl
  have h104 := zf69 l
  rw [Limits.row] at h104
  have hsv := seen_valsE F seen (limE l) t
  obtain ⟨r, hr⟩ : ∃ r, r = lookF F seen (limE l) t := ⟨_, rfl⟩
  rw [← hr] at hsv ⊢
  clear hr
  obtain ⟨e, he⟩ : ∃ e, e = seenF F seen := ⟨_, rfl⟩
  rw [← he] at h54 hsv
  by_cases h0 : e = 0
  · obtain ⟨hg, hsi, hlk⟩ := hsv.2 h0
    have hz : (e != 0) = false := by simp [h0]
    have h57 := zf106 F seen hg hsi
    unfold limE at hlk
    obtain ⟨b, eb⟩ : ∃ b, b = limB l := ⟨_, rfl⟩
    rw [← eb] at h104 hlk
    cases b
    · simp only [Bool.false_eq_true, if_false] at hlk
      rw [if_neg (by decide)] at hlk
      subst hlk
      refine fn_walk 26 Tryz.call113 Tryz.func113 rfl (by decide) fun J => ?_
      simp (maxSteps := 4000000) only [go_sem, St.start, Tryz.ntmps113, Tryz.results113, Limits.row]
      repeat (first | refine walkL_true rfl ?_ | refine walkL_false rfl ?_ | refine walkL_seq ?_ | refine walkL_skip ?_ | refine walkL_block ?_ | (refine walkL_region fun K hK => ?_; simp (maxSteps := 4000000) only [go_sem, hz]; (repeat (first | (refine ⟨_, .lent (hf := h54) (hd := rfl) (hr := rfl), ?_⟩; simp (maxSteps := 4000000) only [go_sem, hz]) | (refine ⟨_, .lent (hf := h104) (hd := rfl) (hr := rfl), ?_⟩; simp (maxSteps := 4000000) only [go_sem, hz]) | (refine ⟨_, .given (hf := h54) (hd := rfl) (ha := rfl), ?_⟩; simp (maxSteps := 4000000) only [go_sem, hz]) | (refine ⟨_, .given (hf := h104) (hd := rfl) (ha := rfl), ?_⟩; simp (maxSteps := 4000000) only [go_sem, hz]))); refine hK _ ?_; clear hK K) | refine walkL_nil ?_ | refine walkL_ret ?_ | refine walkL_exit ?_ | refine blockA_here ?_ | refine blockA_other rfl ?_ | refine blockA_ret ?_ | refine blockA_normal ?_ | refine thenA_ret ?_ | refine thenA_exit ?_ | refine thenA_normal ?_)
      simp (maxSteps := 4000000) only [go_sem]
    · simp only [if_true] at hlk
      cases t
      · simp only [Bool.false_eq_true, if_false] at hlk
        subst hlk
        refine fn_walk 26 Tryz.call113 Tryz.func113 rfl (by decide) fun J => ?_
        simp (maxSteps := 4000000) only [go_sem, St.start, Tryz.ntmps113, Tryz.results113, Limits.row]
        repeat (first | refine walkL_true rfl ?_ | refine walkL_false rfl ?_ | refine walkL_seq ?_ | refine walkL_skip ?_ | refine walkL_block ?_ | (refine walkL_region fun K hK => ?_; simp (maxSteps := 4000000) only [go_sem, hz]; (repeat (first | (refine ⟨_, .lent (hf := h54) (hd := rfl) (hr := rfl), ?_⟩; simp (maxSteps := 4000000) only [go_sem, hz]) | (refine ⟨_, .lent (hf := h104) (hd := rfl) (hr := rfl), ?_⟩; simp (maxSteps := 4000000) only [go_sem, hz]) | (refine ⟨_, .given (hf := h54) (hd := rfl) (ha := rfl), ?_⟩; simp (maxSteps := 4000000) only [go_sem, hz]) | (refine ⟨_, .given (hf := h104) (hd := rfl) (ha := rfl), ?_⟩; simp (maxSteps := 4000000) only [go_sem, hz]))); refine hK _ ?_; clear hK K) | refine walkL_nil ?_ | refine walkL_ret ?_ | refine walkL_exit ?_ | refine blockA_here ?_ | refine blockA_other rfl ?_ | refine blockA_ret ?_ | refine blockA_normal ?_ | refine thenA_ret ?_ | refine thenA_exit ?_ | refine thenA_normal ?_)
        simp (maxSteps := 4000000) only [go_sem]
      · simp only [if_true] at hlk
        have hNl := nums_len (possL F seen)
        obtain ⟨N, hN⟩ : ∃ N, N = numsOf (possL F seen) := ⟨_, rfl⟩
        rw [← hN] at hNl h57
        cases hp : (possL F seen).isEmpty
        · rw [hp] at hlk
          simp only [Bool.false_eq_true, if_false] at hlk
          subst hlk
          have : possL F seen ≠ [] := fun hc => by rw [hc] at hp; cases hp
          have := List.length_pos_iff.2 this
          have n0 : ((N.length : Int) == 0) = false := by
            have : ¬ ((N.length : Int) = 0) := by omega
            simpa using this
          refine fn_walk 26 Tryz.call113 Tryz.func113 rfl (by decide) fun J => ?_
          simp (maxSteps := 4000000) only [go_sem, St.start, Tryz.ntmps113, Tryz.results113, Limits.row]
          repeat (first | refine walkL_true rfl ?_ | refine walkL_false rfl ?_ | refine walkL_seq ?_ | refine walkL_skip ?_ | refine walkL_block ?_ | (refine walkL_region fun K hK => ?_; simp (maxSteps := 4000000) only [go_sem, hz, n0]; (repeat (first | (refine ⟨_, .lent (hf := h54) (hd := rfl) (hr := rfl), ?_⟩; simp (maxSteps := 4000000) only [go_sem, hz, n0]) | (refine ⟨_, .lent (hf := h104) (hd := rfl) (hr := rfl), ?_⟩; simp (maxSteps := 4000000) only [go_sem, hz, n0]) | (refine ⟨_, .lent (hf := h57) (hd := rfl) (hr := rfl), ?_⟩; simp (maxSteps := 4000000) only [go_sem, hz, n0]) | (refine ⟨_, .given (hf := h54) (hd := rfl) (ha := rfl), ?_⟩; simp (maxSteps := 4000000) only [go_sem, hz, n0]) | (refine ⟨_, .given (hf := h104) (hd := rfl) (ha := rfl), ?_⟩; simp (maxSteps := 4000000) only [go_sem, hz, n0]) | (refine ⟨_, .given (hf := h57) (hd := rfl) (ha := rfl), ?_⟩; simp (maxSteps := 4000000) only [go_sem, hz, n0]))); refine hK _ ?_; clear hK K) | refine walkL_nil ?_ | refine walkL_ret ?_ | refine walkL_exit ?_ | refine blockA_here ?_ | refine blockA_other rfl ?_ | refine blockA_ret ?_ | refine blockA_normal ?_ | refine thenA_ret ?_ | refine thenA_exit ?_ | refine thenA_normal ?_)
          simp (maxSteps := 4000000) only [go_sem]
        · rw [hp] at hlk
          simp only [if_true] at hlk
          subst hlk
          have : possL F seen = [] := List.isEmpty_iff.1 hp
          have n0 : ((N.length : Int) == 0) = true := by rw [hNl, this]; rfl
          refine fn_walk 26 Tryz.call113 Tryz.func113 rfl (by decide) fun J => ?_
          simp (maxSteps := 4000000) only [go_sem, St.start, Tryz.ntmps113, Tryz.results113, Limits.row]
          repeat (first | refine walkL_true rfl ?_ | refine walkL_false rfl ?_ | refine walkL_seq ?_ | refine walkL_skip ?_ | refine walkL_block ?_ | (refine walkL_region fun K hK => ?_; simp (maxSteps := 4000000) only [go_sem, hz, n0]; (repeat (first | (refine ⟨_, .lent (hf := h54) (hd := rfl) (hr := rfl), ?_⟩; simp (maxSteps := 4000000) only [go_sem, hz, n0]) | (refine ⟨_, .lent (hf := h104) (hd := rfl) (hr := rfl), ?_⟩; simp (maxSteps := 4000000) only [go_sem, hz, n0]) | (refine ⟨_, .lent (hf := h57) (hd := rfl) (hr := rfl), ?_⟩; simp (maxSteps := 4000000) only [go_sem, hz, n0]) | (refine ⟨_, .given (hf := h54) (hd := rfl) (ha := rfl), ?_⟩; simp (maxSteps := 4000000) only [go_sem, hz, n0]) | (refine ⟨_, .given (hf := h104) (hd := rfl) (ha := rfl), ?_⟩; simp (maxSteps := 4000000) only [go_sem, hz, n0]) | (refine ⟨_, .given (hf := h57) (hd := rfl) (ha := rfl), ?_⟩; simp (maxSteps := 4000000) only [go_sem, hz, n0]))); refine hK _ ?_; clear hK K) | refine walkL_nil ?_ | refine walkL_ret ?_ | refine walkL_exit ?_ | refine blockA_here ?_ | refine blockA_other rfl ?_ | refine blockA_ret ?_ | refine blockA_normal ?_ | refine thenA_ret ?_ | refine thenA_exit ?_ | refine thenA_normal ?_)
          simp (maxSteps := 4000000) only [go_sem]
  · rw [hsv.1 h0]
    have hz : (e != 0) = true := by simpa using h0
    refine fn_walk 26 Tryz.call113 Tryz.func113 rfl (by decide) fun J => ?_
    simp (maxSteps := 4000000) only [go_sem, St.start, Tryz.ntmps113, Tryz.results113, Limits.row]
    repeat (first | refine walkL_true rfl ?_ | refine walkL_false rfl ?_ | refine walkL_seq ?_ | refine walkL_skip ?_ | refine walkL_block ?_ | (refine walkL_region fun K hK => ?_; simp (maxSteps := 4000000) only [go_sem, hz]; (repeat (first | (refine ⟨_, .lent (hf := h54) (hd := rfl) (hr := rfl), ?_⟩; simp (maxSteps := 4000000) only [go_sem, hz]) | (refine ⟨_, .given (hf := h54) (hd := rfl) (ha := rfl), ?_⟩; simp (maxSteps := 4000000) only [go_sem, hz]))); refine hK _ ?_; clear hK K) | refine walkL_nil ?_ | refine walkL_ret ?_ | refine walkL_exit ?_ | refine blockA_here ?_ | refine blockA_other rfl ?_ | refine blockA_ret ?_ | refine blockA_normal ?_ | refine thenA_ret ?_ | refine thenA_exit ?_ | refine thenA_normal ?_)
    simp (maxSteps := 4000000) only [go_sem]
theorem spansQ_congr {q q' : Nat → Bool} : ∀ {n : Nat}, (∀ i, i < n → q i = q' i) → spansQ q n = spansQ q' n
  | 0, _ => rfl
  | n + 1, h => by
    rw [spansQ, spansQ, h n (by omega), spansQ_congr (fun i hi => h i (by omega))]
theorem zf152 (b : List Bool) (hl : b.length < 2 ^ 30) : Fn Tryz.prog 152 [.sl (boolRows b)] (.sl (spanRows (spansQ (fun i => b.getD i false) b.length))) := by
  obtain ⟨q, hq⟩ : ∃ q : Nat → Bool, q = fun i => b.getD i false := ⟨_, rfl⟩
  rw [← hq]
  refine fn_walk 44 Tryz.call152 Tryz.func152 rfl (by decide) fun J => ?_
  simp (maxSteps := 4000000) only [go_sem, St.start, Tryz.ntmps152, Tryz.results152]
  repeat (first | refine walkL_seq ?_ | refine walkL_skip ?_ | refine walkL_block ?_ | (refine walkL_region fun K hK => ?_; simp (maxSteps := 4000000) only [go_sem]; refine hK _ ?_; clear hK K) | refine walkL_nil ?_ | refine walkL_ret ?_ | refine walkL_exit ?_ | refine blockA_here ?_ | refine blockA_other rfl ?_ | refine blockA_ret ?_ | refine blockA_normal ?_ | refine thenA_ret ?_ | refine thenA_exit ?_ | refine thenA_normal ?_)
  refine walkL_loopS (fun (i : Nat) => [(4, .d (.i i)), (3, .own 42), (5, .undef)]) (fun i => [(42, some (.arr 27 2 (spanRows (spansQ q i))))]) (fun i => i ≤ b.length) (fun i => b.length - i) 0 ?_ (Nat.zero_le _) ?_
  · simp (maxSteps := 4000000) only [go_sem]
    refine weak_of [42] ?_ ?_ rfl rfl <;> simp [lessT, lessM, lessB, AV.less]
    all_goals first | done | rfl
  · intro i hi
    simp (maxSteps := 4000000) only [go_sem]
    repeat (first | refine walkL_seq ?_ | refine walkL_skip ?_ | refine walkL_block ?_ | (refine walkL_region fun K hK => ?_; simp (maxSteps := 4000000) only [go_sem]; refine hK _ ?_; clear hK K) | refine walkL_nil ?_ | refine walkL_ret ?_ | refine walkL_exit ?_ | refine blockA_here ?_ | refine blockA_other rfl ?_ | refine blockA_ret ?_ | refine blockA_normal ?_ | refine thenA_ret ?_ | refine thenA_exit ?_ | refine thenA_normal ?_)
    refine walkL_cond rfl (fun hb => ?_) (fun hb => ?_)
    · have hlt : i < b.length := by simpa using hb
      have hw : IntKind.i64.wrap ((i : Int) + 1) = ((i + 1 : Nat) : Int) := by rw [wr_small (by omega)]; simp
      obtain ⟨x, hx⟩ : ∃ x, b[i]? = some x := ⟨_, List.getElem?_eq_getElem hlt⟩
      have g1 := boolRows_at hx
      have hqi : q i = x := by rw [hq]; simp [List.getD, hx]
      have hlen := spansQ_len q i
      have e1 : spansQ q (i + 1) = if x then addSpan (spansQ q i) (i : Int) else spansQ q i := by rw [← hqi]; rfl
      have c95 := zf193 (i : Int)
      obtain ⟨L, hL⟩ : ∃ L, L = spansQ q i := ⟨_, rfl⟩
      rw [← hL] at e1 hlen ⊢
      have wi : IntKind.i64.wrap ((i : Int) - 1) = (i : Int) - 1 := wr_small (by omega)
      have hn1 : L.length + 1 ≤ 549755813888 := by omega
      cases x
      · simp only [Bool.false_eq_true, if_false] at e1
        repeat (first | refine walkL_true rfl ?_ | refine walkL_false rfl ?_ | refine walkL_seq ?_ | refine walkL_skip ?_ | refine walkL_block ?_ | (refine walkL_region fun K hK => ?_; simp (maxSteps := 4000000) only [go_sem, g1, hw]; refine hK _ ?_; clear hK K) | refine walkL_nil ?_ | refine walkL_ret ?_ | refine walkL_exit ?_ | refine blockA_here ?_ | refine blockA_other rfl ?_ | refine blockA_ret ?_ | refine blockA_normal ?_ | refine thenA_ret ?_ | refine thenA_exit ?_ | refine thenA_normal ?_)
        refine ⟨rfl, i + 1, ?_, hlt, by omega⟩
        rw [e1]
        refine weak_of [] ?_ ?_ rfl rfl <;> simp [lessT, lessM, lessB, AV.less]
        all_goals first | done | rfl
      · simp only [if_true] at e1
        rcases last_split L with hLe | ⟨A, s, hLe⟩
        · have e2 : addSpan L (i : Int) = [⟨i, i⟩] := by rw [hLe]; rfl
          rw [e2] at e1
          have d0 : decide ((L.length : Int) > 0) = false := by rw [hLe]; rfl
          have e3 : spanRows L ++ [[.i (i : Int), .i (i : Int)]] = spanRows [⟨i, i⟩] := by rw [hLe]; rfl
          repeat (first | refine walkL_true rfl ?_ | refine walkL_false rfl ?_ | refine walkL_seq ?_ | refine walkL_skip ?_ | refine walkL_block ?_ | (refine walkL_region fun K hK => ?_; simp (maxSteps := 4000000) only [go_sem, g1, d0, hw, hn1, e3]; (repeat (first | (refine ⟨_, .lent (hf := c95) (hd := rfl) (hr := rfl), ?_⟩; simp (maxSteps := 4000000) only [go_sem, g1, d0, hw, hn1, e3]) | (refine ⟨_, .given (hf := c95) (hd := rfl) (ha := rfl), ?_⟩; simp (maxSteps := 4000000) only [go_sem, g1, d0, hw, hn1, e3]))); refine hK _ ?_; clear hK K) | refine walkL_nil ?_ | refine walkL_ret ?_ | refine walkL_exit ?_ | refine blockA_here ?_ | refine blockA_other rfl ?_ | refine blockA_ret ?_ | refine blockA_normal ?_ | refine thenA_ret ?_ | refine thenA_exit ?_ | refine thenA_normal ?_)
          refine ⟨rfl, i + 1, ?_, hlt, by omega⟩
          rw [e1]
          refine weak_of [] ?_ ?_ rfl rfl <;> simp [lessT, lessM, lessB, AV.less]
          all_goals first | done | rfl
        · have hAl : L.length = A.length + 1 := by rw [hLe]; simp
          have wl : IntKind.i64.wrap ((L.length : Int) - 1) = (A.length : Int) := by rw [wr_small (by omega)]; omega
          have g2 : (spanRows L)[A.length]? = some s.row := spanRows_at (by rw [hLe]; simp)
          have hA1 : A.length < L.length := by omega
          have d0 : decide ((L.length : Int) > 0) = true := decide_eq_true (by omega)
          rw [hLe, addSpan_app] at e1
          cases q3 : (s.hi == (i : Int) - 1)
          · rw [q3] at e1
            simp only [Bool.false_eq_true, if_false] at e1
            rw [← hLe] at e1
            repeat (first | refine walkL_true rfl ?_ | refine walkL_false rfl ?_ | refine walkL_seq ?_ | refine walkL_skip ?_ | refine walkL_block ?_ | (refine walkL_region fun K hK => ?_; simp (maxSteps := 4000000) only [go_sem, g1, d0, g2, hA1, wl, Span.row, wi, q3, hw, hn1]; (repeat (first | (refine ⟨_, .lent (hf := c95) (hd := rfl) (hr := rfl), ?_⟩; simp (maxSteps := 4000000) only [go_sem, g1, d0, g2, hA1, wl, Span.row, wi, q3, hw, hn1]) | (refine ⟨_, .given (hf := c95) (hd := rfl) (ha := rfl), ?_⟩; simp (maxSteps := 4000000) only [go_sem, g1, d0, g2, hA1, wl, Span.row, wi, q3, hw, hn1]))); refine hK _ ?_; clear hK K) | refine walkL_nil ?_ | refine walkL_ret ?_ | refine walkL_exit ?_ | refine blockA_here ?_ | refine blockA_other rfl ?_ | refine blockA_ret ?_ | refine blockA_normal ?_ | refine thenA_ret ?_ | refine thenA_exit ?_ | refine thenA_normal ?_)
            refine ⟨rfl, i + 1, ?_, hlt, by omega⟩
            rw [e1, spanRows_push]
            refine weak_of [] ?_ ?_ rfl rfl <;> simp [lessT, lessM, lessB, AV.less]
            all_goals first | done | rfl
          · rw [q3] at e1
            simp only [if_true] at e1
            have e4 : (spanRows L).set A.length [.i s.lo, .i (i : Int)] = spanRows (A ++ [⟨s.lo, i⟩]) := by rw [hLe]; simp [spanRows, Span.row]
            repeat (first | refine walkL_true rfl ?_ | refine walkL_false rfl ?_ | refine walkL_seq ?_ | refine walkL_skip ?_ | refine walkL_block ?_ | (refine walkL_region fun K hK => ?_; simp (maxSteps := 4000000) only [go_sem, g1, d0, g2, hA1, wl, Span.row, wi, q3, hw, hn1]; refine hK _ ?_; clear hK K) | refine walkL_nil ?_ | refine walkL_ret ?_ | refine walkL_exit ?_ | refine blockA_here ?_ | refine blockA_other rfl ?_ | refine blockA_ret ?_ | refine blockA_normal ?_ | refine thenA_ret ?_ | refine thenA_exit ?_ | refine thenA_normal ?_)
            refine ⟨rfl, i + 1, ?_, hlt, by omega⟩
            rw [e1, ← e4]
            refine weak_of [] ?_ ?_ rfl rfl <;> simp [lessT, lessM, lessB, AV.less]
            all_goals first | done | rfl
    · have he : i = b.length := by (have : ¬ i < b.length := by simpa using hb); omega
      subst he
      repeat (first | refine walkL_seq ?_ | refine walkL_skip ?_ | refine walkL_block ?_ | (refine walkL_region fun K hK => ?_; simp (maxSteps := 4000000) only [go_sem]; refine hK _ ?_; clear hK K) | refine walkL_nil ?_ | refine walkL_ret ?_ | refine walkL_exit ?_ | refine blockA_here ?_ | refine blockA_other rfl ?_ | refine blockA_ret ?_ | refine blockA_normal ?_ | refine thenA_ret ?_ | refine thenA_exit ?_ | refine thenA_normal ?_)
      simp (maxSteps := 4000000) only [go_sem]
theorem zf114 (F : List (List Hour)) (seen : List Sight) (l : Limits) (k : Int) (lk : List Hour) (hg : ForeGood F) (hsi : sightsB (hd0 F).length seen = true) (hk : 0 ≤ k) (hl : F[k.toNat]? = some lk) :
    Fn Tryz.prog 114 [.agg [.sl (scenRows F)], .sl (sightRows seen), .i k, .agg l.row] (.tup [.sl (boolRows ((seenHours seen lk).map (alwaysB l))), .sl (boolRows ((seenHours seen lk).map (mayB l)))]) := by
  have hsp := sights_spec hsi
  have hF := hg.scen
  have hH := hg.hours
  have hll := hg.len lk (List.mem_of_getElem? hl)
  have h30 := zf48 F (hd0 F) (headD_get (by omega))
  have hSl := seenHours_len seen lk
  have hat : ∀ i : Nat, i < lk.length → atF seen lk (i : Int) = hourAt (seenHours seen lk) (i : Int) := fun i hi => atF_eq (seen := seen) (l := lk) (fun s hs => by have := hsp.1 s hs; omega) hsp.2.1 i
  have hget : ∀ i : Nat, i < lk.length → (seenHours seen lk)[i]? = some (hourAt (seenHours seen lk) (i : Int)) := fun i hi => by
    have := hourAt_get (l := seenHours seen lk) (i := (i : Int)) ⟨by omega, by simp; omega⟩
    simpa using this
  obtain ⟨S, hS⟩ : ∃ S, S = seenHours seen lk := ⟨_, rfl⟩
  rw [← hS] at hSl hat hget ⊢
  rw [← hll] at h30 hH
  have w0 : (lk.length : Int) = (S.length : Int) := by omega
  rw [w0] at h30
  refine fn_walk 37 Tryz.call114 Tryz.func114 rfl (by decide) fun J => ?_
  simp (maxSteps := 4000000) only [go_sem, St.start, Tryz.ntmps114, Tryz.results114, Limits.row]
  repeat (first | refine walkL_seq ?_ | refine walkL_skip ?_ | refine walkL_block ?_ | (refine walkL_region fun K hK => ?_; simp (maxSteps := 4000000) only [go_sem]; refine hK _ ?_; clear hK K) | refine walkL_nil ?_ | refine walkL_ret ?_ | refine walkL_exit ?_ | refine blockA_here ?_ | refine blockA_other rfl ?_ | refine blockA_ret ?_ | refine blockA_normal ?_ | refine thenA_ret ?_ | refine thenA_exit ?_ | refine thenA_normal ?_)
  refine walkL_loopS (fun (i : Nat) => [(10, .d (.i i)), (11, .undef), (8, .own 28), (9, .own 34)]) (fun i => [(28, some (.arr 4 1 (boolRows ((S.take i).map (alwaysB l))))), (34, some (.arr 4 1 (boolRows ((S.take i).map (mayB l)))))]) (fun i => i ≤ S.length) (fun i => S.length - i) 0 ?_ (Nat.zero_le _) ?_
  · simp (maxSteps := 4000000) only [go_sem]
    refine weak_of [28, 34] ?_ ?_ rfl rfl <;> simp [lessT, lessM, lessB, AV.less]
    all_goals first | done | rfl | exact ⟨rfl, rfl⟩
  · intro i hi
    simp (maxSteps := 4000000) only [go_sem]
    repeat (first | refine walkL_seq ?_ | refine walkL_skip ?_ | refine walkL_block ?_ | (refine walkL_region fun K hK => ?_; simp (maxSteps := 4000000) only [go_sem]; (repeat (first | (refine ⟨_, .lent (hf := h30) (hd := rfl) (hr := rfl), ?_⟩; simp (maxSteps := 4000000) only [go_sem]) | (refine ⟨_, .given (hf := h30) (hd := rfl) (ha := rfl), ?_⟩; simp (maxSteps := 4000000) only [go_sem]))); refine hK _ ?_; clear hK K) | refine walkL_nil ?_ | refine walkL_ret ?_ | refine walkL_exit ?_ | refine blockA_here ?_ | refine blockA_other rfl ?_ | refine blockA_ret ?_ | refine blockA_normal ?_ | refine thenA_ret ?_ | refine thenA_exit ?_ | refine thenA_normal ?_)
    refine walkL_cond rfl (fun hb => ?_) (fun hb => ?_)
    · have hlt : i < S.length := by simpa using hb
      have hw : IntKind.i64.wrap ((i : Int) + 1) = ((i + 1 : Nat) : Int) := by rw [wr_small (by omega)]; simp
      have c117 := zf153 F seen lk k (i : Int) (by omega) hk hl ⟨by omega, by simp; omega⟩
      rw [hat i (by omega)] at c117
      have hx := hget i (by omega)
      obtain ⟨x, hx0⟩ : ∃ x, x = hourAt S (i : Int) := ⟨_, rfl⟩
      rw [← hx0] at c117 hx
      have c118 := zf156 l x
      have c119 := zf157 l x
      rw [Limits.row] at c118 c119
      rw [Hour.row] at c117 c118 c119
      have ht1 : (S.take (i + 1)).map (alwaysB l) = (S.take i).map (alwaysB l) ++ [alwaysB l x] := by rw [List.take_add_one, hx]; simp
      have ht2 : (S.take (i + 1)).map (mayB l) = (S.take i).map (mayB l) ++ [mayB l x] := by rw [List.take_add_one, hx]; simp
      obtain ⟨A, hA⟩ : ∃ A, A = (S.take i).map (alwaysB l) := ⟨_, rfl⟩
      obtain ⟨B, hB⟩ : ∃ B, B = (S.take i).map (mayB l) := ⟨_, rfl⟩
      have hAl : A.length = i := by rw [hA]; simp; omega
      have hBl : B.length = i := by rw [hB]; simp; omega
      have hn1 : A.length + 1 ≤ 549755813888 := by omega
      have hn2 : B.length + 1 ≤ 549755813888 := by omega
      rw [← hA] at ht1 ⊢
      rw [← hB] at ht2 ⊢
      obtain ⟨u, hu⟩ : ∃ u, u = alwaysB l x := ⟨_, rfl⟩
      obtain ⟨v, hv⟩ : ∃ v, v = mayB l x := ⟨_, rfl⟩
      rw [← hu] at c118 ht1
      rw [← hv] at c119 ht2
      repeat (first | refine walkL_seq ?_ | refine walkL_skip ?_ | refine walkL_block ?_ | (refine walkL_region fun K hK => ?_; simp (maxSteps := 4000000) only [go_sem, hn1, hn2, hw]; (repeat (first | (refine ⟨_, .lent (hf := c117) (hd := rfl) (hr := rfl), ?_⟩; simp (maxSteps := 4000000) only [go_sem, hn1, hn2, hw]) | (refine ⟨_, .lent (hf := c118) (hd := rfl) (hr := rfl), ?_⟩; simp (maxSteps := 4000000) only [go_sem, hn1, hn2, hw]) | (refine ⟨_, .lent (hf := c119) (hd := rfl) (hr := rfl), ?_⟩; simp (maxSteps := 4000000) only [go_sem, hn1, hn2, hw]) | (refine ⟨_, .given (hf := c117) (hd := rfl) (ha := rfl), ?_⟩; simp (maxSteps := 4000000) only [go_sem, hn1, hn2, hw]) | (refine ⟨_, .given (hf := c118) (hd := rfl) (ha := rfl), ?_⟩; simp (maxSteps := 4000000) only [go_sem, hn1, hn2, hw]) | (refine ⟨_, .given (hf := c119) (hd := rfl) (ha := rfl), ?_⟩; simp (maxSteps := 4000000) only [go_sem, hn1, hn2, hw]))); refine hK _ ?_; clear hK K) | refine walkL_nil ?_ | refine walkL_ret ?_ | refine walkL_exit ?_ | refine blockA_here ?_ | refine blockA_other rfl ?_ | refine blockA_ret ?_ | refine blockA_normal ?_ | refine thenA_ret ?_ | refine thenA_exit ?_ | refine thenA_normal ?_)
      refine ⟨rfl, i + 1, ?_, hlt, by omega⟩
      rw [ht1, ht2, boolRows_push, boolRows_push]
      refine weak_of [] ?_ ?_ rfl rfl <;> simp [lessT, lessM, lessB, AV.less]
      all_goals first | done | rfl | exact ⟨rfl, rfl⟩
    · have he : i = S.length := by (have : ¬ i < S.length := by simpa using hb); omega
      subst he
      rw [List.take_length]
      repeat (first | refine walkL_seq ?_ | refine walkL_skip ?_ | refine walkL_block ?_ | (refine walkL_region fun K hK => ?_; simp (maxSteps := 4000000) only [go_sem]; refine hK _ ?_; clear hK K) | refine walkL_nil ?_ | refine walkL_ret ?_ | refine walkL_exit ?_ | refine blockA_here ?_ | refine blockA_other rfl ?_ | refine blockA_ret ?_ | refine blockA_normal ?_ | refine thenA_ret ?_ | refine thenA_exit ?_ | refine thenA_normal ?_)
      simp (maxSteps := 4000000) only [go_sem]
      try rfl
end Go.Ab
namespace Go.Ab
open Go.RowKit Go.Proofs
set_option maxHeartbeats 16000000
set_option maxRecDepth 20000
attribute [local irreducible] WalkL Walk
theorem seen_hour {F : List (List Hour)} {seen : List Sight} (hg : ForeGood F) (hsi : sightsB (hd0 F).length seen = true) {lk : List Hour} (hl : lk ∈ F) : ∀ h ∈ seenHours seen lk, hourB h = true := by
  obtain ⟨s1, s2, s3⟩ := sights_spec hsi
  have key : ∀ (sn : List Sight) (l : List Hour), (∀ s ∈ sn, hourB (pointH s.sky) = true) → (∀ h ∈ l, hourB h = true) → ∀ h ∈ seenHours sn l, hourB h = true := by
    intro sn
    induction sn with
    | nil => intro l _ h2 h hh; exact h2 h hh
    | cons s sn ih =>
      intro l h1 h2 h hh
      rw [seenHours, List.foldl_cons] at hh
      refine ih _ (fun s hs => h1 s (List.mem_cons_of_mem _ hs)) (fun g hg => ?_) h hh
      rcases List.mem_or_eq_of_mem_set hg with hg | rfl
      · exact h2 g hg
      · exact h1 s (List.mem_cons_self ..)
  exact key seen lk (fun s hs => (s1 s hs).2.2) (hg.hour lk hl)
theorem hour_temp {h : Hour} (hb : hourB h = true) : h.temp.lo ≤ h.temp.hi := by
  unfold hourB at hb
  simp only [Bool.and_eq_true, ordered_iff] at hb
  omega
structure Poss (F : List (List Hour)) (seen : List Sight) (l : Limits) (S : List (List Hour)) (N : List Int) (H : Nat) : Prop where
  len : N.length = S.length
  few : S.length ≤ 6
  pos : 0 < S.length
  hours : 1 ≤ H ∧ H ≤ 48
  all : ∀ s ∈ S, s.length = H
  get : ∀ (i : Nat) s, S[i]? = some s → ∃ k, N[i]? = some k ∧ 0 ≤ k ∧ Fn Tryz.prog 114 [.agg [.sl (scenRows F)], .sl (sightRows seen), .i k, .agg l.row] (.tup [.sl (boolRows (s.map (alwaysB l))), .sl (boolRows (s.map (everB l)))])
theorem poss_of {F : List (List Hour)} {seen : List Sight} {l : Limits} {err : Int} {t : Bool} (h : lookF F seen err t = 0) (hl : limB l = true) : Poss F seen l (scensOf (possL F seen)) (numsOf (possL F seen)) (hd0 F).length := by
  obtain ⟨hg, hsi, hne, _, _⟩ := look_all h
  have hF := hg.scen
  have hpl : (possL F seen).length ≤ F.length := possFrom_len _ _ _
  refine ⟨by rw [nums_len, scens_len], by rw [scens_len]; omega, by rw [scens_len]; exact List.length_pos_iff.2 hne, hg.hours, scens_all hg, fun i s hs => ?_⟩
  obtain ⟨k, hk⟩ : ∃ k, (numsOf (possL F seen))[i]? = some k := ⟨_, List.getElem?_eq_getElem (by rw [nums_len, ← scens_len]; exact (List.getElem?_eq_some_iff.1 hs).1)⟩
  obtain ⟨k0, lk, hlk, _, _, hpi⟩ := nums_get hk
  have e : s = seenHours seen lk := by
    rw [scensOf, List.getElem?_map, hpi] at hs
    simp at hs
    exact hs.symm
  have hm := List.mem_of_getElem? hlk
  have h68 := zf114 F seen l k lk hg hsi k0 hlk
  rw [← e] at h68
  have hme : s.map (mayB l) = s.map (everB l) := List.map_congr_left fun h hh => may_ever (by have := (lim_iff.1 hl).2.2; omega) (hour_temp (seen_hour hg hsi hm h (e ▸ hh)))
  rw [hme] at h68
  exact ⟨k, hk, k0, h68⟩
def rowAll (q : Hour → Bool) (S : List (List Hour)) (H : Nat) : List Bool := (List.range H).map fun (h : Nat) => S.all fun s => q (hourAt s (h : Int))
def rowAny (q : Hour → Bool) (S : List (List Hour)) (H : Nat) : List Bool := (List.range H).map fun (h : Nat) => S.any fun s => q (hourAt s (h : Int))
theorem rowAll_len (q : Hour → Bool) (S : List (List Hour)) (H : Nat) : (rowAll q S H).length = H := by simp [rowAll]
theorem rowAny_len (q : Hour → Bool) (S : List (List Hour)) (H : Nat) : (rowAny q S H).length = H := by simp [rowAny]
theorem rowAll_step (q : Hour → Bool) {S : List (List Hour)} {H i : Nat} {s : List Hour} (hs : S[i]? = some s) : rowAll q (S.take (i + 1)) H = (rowAll q (S.take i) H).mapIdx fun (h : Nat) b => b && q (hourAt s (h : Int)) := by
  apply List.ext_getElem?
  intro j
  have e : S.take (i + 1) = S.take i ++ [s] := by rw [List.take_add_one, hs]; rfl
  by_cases hj : j < H
  · simp [rowAll, hj, e, List.getElem?_mapIdx]
  · simp [rowAll, hj, List.getElem?_mapIdx]
theorem rowAny_step (q : Hour → Bool) {S : List (List Hour)} {H i : Nat} {s : List Hour} (hs : S[i]? = some s) : rowAny q (S.take (i + 1)) H = (rowAny q (S.take i) H).mapIdx fun (h : Nat) b => b || q (hourAt s (h : Int)) := by
  apply List.ext_getElem?
  intro j
  have e : S.take (i + 1) = S.take i ++ [s] := by rw [List.take_add_one, hs]; rfl
  by_cases hj : j < H
  · simp [rowAny, hj, e, List.getElem?_mapIdx]
  · simp [rowAny, hj, List.getElem?_mapIdx]
theorem rowAll_zero (q : Hour → Bool) (H : Nat) : rowAll q [] H = List.replicate H true := by
  apply List.ext_getElem?
  intro j
  by_cases hj : j < H <;> simp [rowAll, hj, List.getElem?_replicate]
theorem rowAny_zero (q : Hour → Bool) (H : Nat) : rowAny q [] H = List.replicate H false := by
  apply List.ext_getElem?
  intro j
  by_cases hj : j < H <;> simp [rowAny, hj, List.getElem?_replicate]
theorem boolRows_rep (n : Nat) (b : Bool) : List.replicate n [DV.bool b] = boolRows (List.replicate n b) := by simp [boolRows]
theorem boolRows_set (l : List Bool) (k : Nat) (b : Bool) : (boolRows l).set k [.bool b] = boolRows (l.set k b) := by simp [boolRows, List.map_set]
theorem zf102 (F : List (List Hour)) (seen : List Sight) (l : Limits) (hs : ForeSmall F) (hsl : seen.length < 2 ^ 30) :
    Fn Tryz.prog 102 [.agg [.sl (scenRows F)], .sl (sightRows seen), .agg l.row] (.tup [.sl (spanRows (keepsF F seen l).1), .sl (spanRows (keepsF F seen l).2.1), .i (keepsF F seen l).2.2]) := by
  have h67 := zf113 F seen l true hs hsl
  obtain ⟨e, he⟩ : ∃ e, e = lookF F seen (limE l) true := ⟨_, rfl⟩
  unfold keepsF
  rw [← he] at h67 ⊢
  by_cases h0 : e = 0
  · rw [if_pos h0]
    have hz : (e != 0) = false := by simp [h0]
    rw [h0] at he
    obtain ⟨hg, hsi, hne, hlim, _⟩ := look_all he.symm
    have hlb : limB l = true := by
      unfold limE at hlim
      split at hlim
      · assumption
      · cases hlim
    have hp := poss_of he.symm hlb
    have h57 := zf106 F seen hg hsi
    have h30 := zf48 F (hd0 F) (headD_get (by have := hg.scen; omega))
    obtain ⟨N, hN⟩ : ∃ N, N = numsOf (possL F seen) := ⟨_, rfl⟩
    obtain ⟨S, hS⟩ : ∃ S, S = scensOf (possL F seen) := ⟨_, rfl⟩
    obtain ⟨H, hHe⟩ : ∃ H, H = (hd0 F).length := ⟨_, rfl⟩
    rw [← hN, ← hS, ← hHe] at hp
    rw [← hS, ← hHe]
    rw [← hN] at h57
    rw [← hHe] at h30
    have hlen := hp.len
    have hfew := hp.few
    have hH := hp.hours
    have eA : spansQ (fun i => S.all fun s => alwaysB l (hourAt s (i : Int))) H = spansQ (fun i => (rowAll (alwaysB l) S H).getD i false) (rowAll (alwaysB l) S H).length := by
      rw [rowAll_len]
      exact spansQ_congr fun i hi => by simp [rowAll, List.getD, hi]
    have eB : spansQ (fun i => S.any fun s => everB l (hourAt s (i : Int))) H = spansQ (fun i => (rowAny (everB l) S H).getD i false) (rowAny (everB l) S H).length := by
      rw [rowAny_len]
      exact spansQ_congr fun i hi => by simp [rowAny, List.getD, hi]
    rw [eA, eB]
    have cA := zf152 (rowAll (alwaysB l) S H) (by rw [rowAll_len]; omega)
    have cB := zf152 (rowAny (everB l) S H) (by rw [rowAny_len]; omega)
    obtain ⟨XA, hXA⟩ : ∃ X, X = spansQ (fun i => (rowAll (alwaysB l) S H).getD i false) (rowAll (alwaysB l) S H).length := ⟨_, rfl⟩
    obtain ⟨XB, hXB⟩ : ∃ X, X = spansQ (fun i => (rowAny (everB l) S H).getD i false) (rowAny (everB l) S H).length := ⟨_, rfl⟩
    rw [← hXA] at cA ⊢
    rw [← hXB] at cB ⊢
    have m1 : (0 : Int) ≤ (H : Int) ∧ (H : Int) ≤ 1099511627776 := by omega
    have m2 : True ∧ (0 : Int) ≤ (H : Int) ∧ (H : Int) ≤ 1099511627776 := ⟨trivial, m1⟩
    refine fn_walk 96 Tryz.call102 Tryz.func102 rfl (by decide) fun J => ?_
    simp (maxSteps := 4000000) only [go_sem, St.start, Tryz.ntmps102, Tryz.results102, Limits.row]
    repeat (first | refine walkL_true rfl ?_ | refine walkL_false rfl ?_ | refine walkL_seq ?_ | refine walkL_skip ?_ | refine walkL_block ?_ | (refine walkL_region fun K hK => ?_; simp (maxSteps := 4000000) only [go_sem, hz]; (repeat (first | (refine ⟨_, .lent (hf := h67) (hd := rfl) (hr := rfl), ?_⟩; simp (maxSteps := 4000000) only [go_sem, hz]) | (refine ⟨_, .given (hf := h67) (hd := rfl) (ha := rfl), ?_⟩; simp (maxSteps := 4000000) only [go_sem, hz]))); refine hK _ ?_; clear hK K) | refine walkL_nil ?_ | refine walkL_ret ?_ | refine walkL_exit ?_ | refine blockA_here ?_ | refine blockA_other rfl ?_ | refine blockA_ret ?_ | refine blockA_normal ?_ | refine thenA_ret ?_ | refine thenA_exit ?_ | refine thenA_normal ?_)
    refine walkL_drawn (by kernel_rfl) (by kernel_rfl) fun K hK => ?_
    simp (maxSteps := 4000000) only [go_sem]
    refine ⟨_, .fn (hf := h30) (hd := rfl) (hr := .inl rfl), ?_⟩
    simp (maxSteps := 4000000) only [go_sem]
    simp (maxSteps := 4000000) only [go_sem, m1, m2]
    refine ⟨_, .fn (hf := h30) (hd := rfl) (hr := .inl rfl), ?_⟩
    simp (maxSteps := 4000000) only [go_sem]
    simp (maxSteps := 4000000) only [go_sem, m1, m2]
    refine ⟨by kernel_rfl, hK _ ?_⟩
    clear hK K
    have z0 : List.replicate H [DV.bool false] = boolRows (updI (fun _ _ => true) (List.replicate H false) 0) := by rw [updI_zero, boolRows_rep]
    have z1 : List.replicate H [DV.bool false] = boolRows (rowAny (everB l) (S.take 0) H) := by rw [List.take_zero, rowAny_zero, boolRows_rep]
    repeat (first | refine walkL_true rfl ?_ | refine walkL_false rfl ?_ | refine walkL_seq ?_ | refine walkL_skip ?_ | refine walkL_block ?_ | (refine walkL_region fun K hK => ?_; simp (maxSteps := 4000000) only [go_sem]; refine hK _ ?_; clear hK K) | refine walkL_nil ?_ | refine walkL_ret ?_ | refine walkL_exit ?_ | refine blockA_here ?_ | refine blockA_other rfl ?_ | refine blockA_ret ?_ | refine blockA_normal ?_ | refine thenA_ret ?_ | refine thenA_exit ?_ | refine thenA_normal ?_)
    refine walkL_loopS (fun (i : Nat) => [(12, .d (.i i))]) (fun i => [(27, some (.arr 4 1 (boolRows (updI (fun _ _ => true) (List.replicate H false) i))))]) (fun i => i ≤ H) (fun i => H - i) 0 ?_ (Nat.zero_le _) ?_
    · simp (maxSteps := 4000000) only [go_sem]
      refine weak_of [] ?_ ?_ rfl rfl <;> simp [lessT, lessM, lessB, AV.less]
      all_goals first | done | exact z0 | rfl | exact ⟨rfl, rfl⟩
    · intro i hi
      have hUl : (updI (fun _ _ => true) (List.replicate H false) i).length = H := by rw [updI_len]; simp
      simp (maxSteps := 4000000) only [go_sem]
      repeat (first | refine walkL_seq ?_ | refine walkL_skip ?_ | refine walkL_block ?_ | (refine walkL_region fun K hK => ?_; simp (maxSteps := 4000000) only [go_sem, boolRows_len, hUl]; refine hK _ ?_; clear hK K) | refine walkL_nil ?_ | refine walkL_ret ?_ | refine walkL_exit ?_ | refine blockA_here ?_ | refine blockA_other rfl ?_ | refine blockA_ret ?_ | refine blockA_normal ?_ | refine thenA_ret ?_ | refine thenA_exit ?_ | refine thenA_normal ?_)
      refine walkL_cond rfl (fun hb => ?_) (fun hb => ?_)
      · have hlt : i < H := by simpa using hb
        have hw : IntKind.i64.wrap ((i : Int) + 1) = ((i + 1 : Nat) : Int) := by rw [wr_small (by omega)]; simp
        have hx : (List.replicate H false)[i]? = some false := by simp [hlt]
        have u1 := updI_get (fun (_ : Nat) (_ : Bool) => true) hx
        have u2 := updI_set (fun (_ : Nat) (_ : Bool) => true) hx
        have g1 := boolRows_at u1
        have u3 : (boolRows (updI (fun _ _ => true) (List.replicate H false) i)).set i [.bool true] = boolRows (updI (fun _ _ => true) (List.replicate H false) (i + 1)) := by rw [boolRows_set, u2]
        obtain ⟨U, hU⟩ : ∃ U, U = updI (fun (_ : Nat) (_ : Bool) => true) (List.replicate H false) i := ⟨_, rfl⟩
        rw [← hU] at g1 u3 hUl ⊢
        have hiU : i < U.length := by omega
        repeat (first | refine walkL_seq ?_ | refine walkL_skip ?_ | refine walkL_block ?_ | (refine walkL_region fun K hK => ?_; simp (maxSteps := 4000000) only [go_sem, g1, hiU, hw]; refine hK _ ?_; clear hK K) | refine walkL_nil ?_ | refine walkL_ret ?_ | refine walkL_exit ?_ | refine blockA_here ?_ | refine blockA_other rfl ?_ | refine blockA_ret ?_ | refine blockA_normal ?_ | refine thenA_ret ?_ | refine thenA_exit ?_ | refine thenA_normal ?_)
        refine ⟨rfl, i + 1, ?_, hlt, by omega⟩
        rw [← u3]
        refine weak_of [] ?_ ?_ rfl rfl <;> simp [lessT, lessM, lessB, AV.less]
        all_goals first | done | rfl
      · have he : H = i := by (have : ¬ i < H := by simpa using hb); omega
        subst he
        have zA : boolRows (updI (fun _ _ => true) (List.replicate H false) H) = boolRows (rowAll (alwaysB l) (S.take 0) H) := by
          have := updI_all (fun (_ : Nat) (_ : Bool) => true) (List.replicate H false)
          rw [List.length_replicate] at this
          rw [this, List.take_zero, rowAll_zero]
          congr 1
          apply List.ext_getElem?
          intro j
          by_cases hj : j < H <;> simp [List.getElem?_mapIdx, List.getElem?_replicate, hj]
        rw [zA, z1]
        repeat (first | refine walkL_seq ?_ | refine walkL_skip ?_ | refine walkL_block ?_ | (refine walkL_region fun K hK => ?_; simp (maxSteps := 4000000) only [go_sem]; (repeat (first | (refine ⟨_, .lent (hf := h57) (hd := rfl) (hr := rfl), ?_⟩; simp (maxSteps := 4000000) only [go_sem]) | (refine ⟨_, .given (hf := h57) (hd := rfl) (ha := rfl), ?_⟩; simp (maxSteps := 4000000) only [go_sem]))); refine hK _ ?_; clear hK K) | refine walkL_nil ?_ | refine walkL_ret ?_ | refine walkL_exit ?_ | refine blockA_here ?_ | refine blockA_other rfl ?_ | refine blockA_ret ?_ | refine blockA_normal ?_ | refine thenA_ret ?_ | refine thenA_exit ?_ | refine thenA_normal ?_)
        refine walkL_loopS (fun (i : Nat) => [(14, .d (.i i)), (15, .undef), (16, .undef), (17, .undef)]) (fun i => [(27, some (.arr 4 1 (boolRows (rowAll (alwaysB l) (S.take i) H)))), (30, some (.arr 4 1 (boolRows (rowAny (everB l) (S.take i) H))))]) (fun i => i ≤ S.length) (fun i => S.length - i) 0 ?_ (Nat.zero_le _) ?_
        · simp (maxSteps := 4000000) only [go_sem]
          refine weak_of [] ?_ ?_ rfl rfl <;> simp [lessT, lessM, lessB, AV.less]
          all_goals first | done | rfl | exact ⟨rfl, rfl⟩
        · intro i hi
          have lA := rowAll_len (alwaysB l) (S.take i) H
          have lB := rowAny_len (everB l) (S.take i) H
          have wN : (N.length : Int) = (S.length : Int) := by omega
          simp (maxSteps := 4000000) only [go_sem]
          repeat (first | refine walkL_seq ?_ | refine walkL_skip ?_ | refine walkL_block ?_ | (refine walkL_region fun K hK => ?_; simp (maxSteps := 4000000) only [go_sem, intRows_len, wN]; refine hK _ ?_; clear hK K) | refine walkL_nil ?_ | refine walkL_ret ?_ | refine walkL_exit ?_ | refine blockA_here ?_ | refine blockA_other rfl ?_ | refine blockA_ret ?_ | refine blockA_normal ?_ | refine thenA_ret ?_ | refine thenA_exit ?_ | refine thenA_normal ?_)
          refine walkL_cond rfl (fun hb => ?_) (fun hb => ?_)
          · have hlti : i < S.length := by simpa using hb
            have hwi : IntKind.i64.wrap ((i : Int) + 1) = ((i + 1 : Nat) : Int) := by rw [wr_small (by omega)]; simp
            obtain ⟨s, hx⟩ : ∃ s, S[i]? = some s := ⟨_, List.getElem?_eq_getElem hlti⟩
            obtain ⟨k, hk, hk0, h68⟩ := hp.get i s hx
            have hsH := hp.all s (List.mem_of_getElem? hx)
            have gk := intRows_at hk
            have stA := rowAll_step (alwaysB l) (H := H) hx
            have stB := rowAny_step (everB l) (H := H) hx
            obtain ⟨A, hA⟩ : ∃ A, A = rowAll (alwaysB l) (S.take i) H := ⟨_, rfl⟩
            obtain ⟨B, hB⟩ : ∃ B, B = rowAny (everB l) (S.take i) H := ⟨_, rfl⟩
            rw [← hA] at lA stA ⊢
            rw [← hB] at lB stB ⊢
            rw [Limits.row] at h68
            obtain ⟨fa, hfa⟩ : ∃ f : Nat → Bool → Bool, f = fun (h : Nat) b => b && alwaysB l (hourAt s (h : Int)) := ⟨_, rfl⟩
            obtain ⟨fb, hfb⟩ : ∃ f : Nat → Bool → Bool, f = fun (h : Nat) b => b || everB l (hourAt s (h : Int)) := ⟨_, rfl⟩
            rw [← hfa] at stA
            rw [← hfb] at stB
            repeat (first | refine walkL_seq ?_ | refine walkL_skip ?_ | refine walkL_block ?_ | (refine walkL_region fun K hK => ?_; simp (maxSteps := 4000000) only [go_sem]; refine hK _ ?_; clear hK K) | refine walkL_nil ?_ | refine walkL_ret ?_ | refine walkL_exit ?_ | refine blockA_here ?_ | refine blockA_other rfl ?_ | refine blockA_ret ?_ | refine blockA_normal ?_ | refine thenA_ret ?_ | refine thenA_exit ?_ | refine thenA_normal ?_)
            refine walkL_drawn (by kernel_rfl) (by kernel_rfl) fun K hK => ?_
            simp (maxSteps := 4000000) only [go_sem, gk]
            refine ⟨_, .fn (hf := h68) (hd := rfl) (hr := .inr rfl), ?_⟩
            simp (maxSteps := 4000000) only [go_sem]
            refine ⟨by kernel_rfl, hK _ ?_⟩
            clear hK K
            repeat (first | refine walkL_true rfl ?_ | refine walkL_false rfl ?_ | refine walkL_seq ?_ | refine walkL_skip ?_ | refine walkL_block ?_ | (refine walkL_region fun K hK => ?_; simp (maxSteps := 4000000) only [go_sem]; refine hK _ ?_; clear hK K) | refine walkL_nil ?_ | refine walkL_ret ?_ | refine walkL_exit ?_ | refine blockA_here ?_ | refine blockA_other rfl ?_ | refine blockA_ret ?_ | refine blockA_normal ?_ | refine thenA_ret ?_ | refine thenA_exit ?_ | refine thenA_normal ?_)
            refine walkL_loopS (fun (k : Nat) => [(17, .d (.i k))]) (fun k => [(27, some (.arr 4 1 (boolRows (updI fa A k)))), (30, some (.arr 4 1 (boolRows (updI fb B k))))]) (fun k => k ≤ H) (fun k => H - k) 0 ?_ (Nat.zero_le _) ?_
            · simp (maxSteps := 4000000) only [go_sem, updI_zero]
              refine weak_of [] ?_ ?_ rfl rfl <;> simp [lessT, lessM, lessB, AV.less]
              all_goals first | done | rfl | exact ⟨rfl, rfl⟩ | (rw [updI_zero])
            · intro k hk
              have hUA := updI_len fa A k
              have hUB := updI_len fb B k
              rw [lA] at hUA
              rw [lB] at hUB
              simp (maxSteps := 4000000) only [go_sem]
              repeat (first | refine walkL_seq ?_ | refine walkL_skip ?_ | refine walkL_block ?_ | (refine walkL_region fun K hK => ?_; simp (maxSteps := 4000000) only [go_sem, boolRows_len, hUA]; refine hK _ ?_; clear hK K) | refine walkL_nil ?_ | refine walkL_ret ?_ | refine walkL_exit ?_ | refine blockA_here ?_ | refine blockA_other rfl ?_ | refine blockA_ret ?_ | refine blockA_normal ?_ | refine thenA_ret ?_ | refine thenA_exit ?_ | refine thenA_normal ?_)
              refine walkL_cond rfl (fun hb => ?_) (fun hb => ?_)
              · have hlt : k < H := by simpa using hb
                have hw : IntKind.i64.wrap ((k : Int) + 1) = ((k + 1 : Nat) : Int) := by rw [wr_small (by omega)]; simp
                obtain ⟨a, ha⟩ : ∃ a, A[k]? = some a := ⟨_, List.getElem?_eq_getElem (by omega)⟩
                obtain ⟨b, hb0⟩ : ∃ b, B[k]? = some b := ⟨_, List.getElem?_eq_getElem (by omega)⟩
                have ua := updI_get fa ha
                have ub := updI_get fb hb0
                have sa := updI_set fa ha
                have sb := updI_set fb hb0
                have ga := boolRows_at ua
                have gb := boolRows_at ub
                have hat : s[k]? = some (hourAt s (k : Int)) := by simpa using hourAt_get (l := s) (i := (k : Int)) ⟨by omega, by simp; omega⟩
                have gs1 : (boolRows (s.map (alwaysB l)))[k]? = some [.bool (alwaysB l (hourAt s (k : Int)))] := boolRows_at (by rw [List.getElem?_map, hat]; rfl)
                have gs2 : (boolRows (s.map (everB l)))[k]? = some [.bool (everB l (hourAt s (k : Int)))] := boolRows_at (by rw [List.getElem?_map, hat]; rfl)
                have ea : fa k a = (a && alwaysB l (hourAt s (k : Int))) := by rw [hfa]
                have eb : fb k b = (b || everB l (hourAt s (k : Int))) := by rw [hfb]
                obtain ⟨x, hx1⟩ : ∃ x, x = alwaysB l (hourAt s (k : Int)) := ⟨_, rfl⟩
                obtain ⟨y, hy1⟩ : ∃ y, y = everB l (hourAt s (k : Int)) := ⟨_, rfl⟩
                rw [← hx1] at gs1 ea
                rw [← hy1] at gs2 eb
                rw [ea] at sa
                rw [eb] at sb
                obtain ⟨UA, hUA0⟩ : ∃ U, U = updI fa A k := ⟨_, rfl⟩
                obtain ⟨UB, hUB0⟩ : ∃ U, U = updI fb B k := ⟨_, rfl⟩
                rw [← hUA0] at ga sa hUA ⊢
                rw [← hUB0] at gb sb hUB ⊢
                have i1 : k < UA.length := by omega
                have i2 : k < UB.length := by omega
                have sa' : (boolRows UA).set k [.bool (a && x)] = boolRows (updI fa A (k + 1)) := by rw [boolRows_set, sa]
                have sb' : (boolRows UB).set k [.bool (b || y)] = boolRows (updI fb B (k + 1)) := by rw [boolRows_set, sb]
                cases a <;> cases b
                all_goals
                  simp only [Bool.false_and, Bool.true_and, Bool.false_or, Bool.true_or] at sa' sb'
                  repeat (first | refine walkL_seq ?_ | refine walkL_skip ?_ | refine walkL_block ?_ | (refine walkL_region fun K hK => ?_; simp (maxSteps := 4000000) only [go_sem, ga, gb, gs1, gs2, i1, i2, sa', sb', hw]; refine hK _ ?_; clear hK K) | refine walkL_nil ?_ | refine walkL_ret ?_ | refine walkL_exit ?_ | refine blockA_here ?_ | refine blockA_other rfl ?_ | refine blockA_ret ?_ | refine blockA_normal ?_ | refine thenA_ret ?_ | refine thenA_exit ?_ | refine thenA_normal ?_)
                  refine ⟨rfl, k + 1, ?_, hlt, by omega⟩
                  refine weak_of [] ?_ ?_ rfl rfl <;> simp [lessT, lessM, lessB, AV.less]
                  all_goals first | done | rfl | exact ⟨rfl, rfl⟩
              · have he : H = k := by (have : ¬ k < H := by simpa using hb); omega
                subst he
                have e1 : updI fa A H = rowAll (alwaysB l) (S.take (i + 1)) H := by rw [stA, ← updI_all, lA]
                have e2 : updI fb B H = rowAny (everB l) (S.take (i + 1)) H := by rw [stB, ← updI_all, lB]
                rw [e1, e2]
                repeat (first | refine walkL_seq ?_ | refine walkL_skip ?_ | refine walkL_block ?_ | (refine walkL_region fun K hK => ?_; simp (maxSteps := 4000000) only [go_sem, hwi]; refine hK _ ?_; clear hK K) | refine walkL_nil ?_ | refine walkL_ret ?_ | refine walkL_exit ?_ | refine blockA_here ?_ | refine blockA_other rfl ?_ | refine blockA_ret ?_ | refine blockA_normal ?_ | refine thenA_ret ?_ | refine thenA_exit ?_ | refine thenA_normal ?_)
                refine ⟨rfl, i + 1, ?_, hlti, by omega⟩
                refine weak_of [] ?_ ?_ rfl rfl <;> simp [lessT, lessM, lessB, AV.less]
                all_goals first | done | rfl | exact ⟨rfl, rfl⟩
          · have he : i = S.length := by (have : ¬ i < S.length := by simpa using hb); omega
            subst he
            rw [List.take_length]
            repeat (first | refine walkL_seq ?_ | refine walkL_skip ?_ | refine walkL_block ?_ | (refine walkL_region fun K hK => ?_; simp (maxSteps := 4000000) only [go_sem]; (repeat (first | (refine ⟨_, .lent (hf := cA) (hd := rfl) (hr := rfl), ?_⟩; simp (maxSteps := 4000000) only [go_sem]) | (refine ⟨_, .lent (hf := cB) (hd := rfl) (hr := rfl), ?_⟩; simp (maxSteps := 4000000) only [go_sem]) | (refine ⟨_, .given (hf := cA) (hd := rfl) (ha := rfl), ?_⟩; simp (maxSteps := 4000000) only [go_sem]) | (refine ⟨_, .given (hf := cB) (hd := rfl) (ha := rfl), ?_⟩; simp (maxSteps := 4000000) only [go_sem]))); refine hK _ ?_; clear hK K) | refine walkL_nil ?_ | refine walkL_ret ?_ | refine walkL_exit ?_ | refine blockA_here ?_ | refine blockA_other rfl ?_ | refine blockA_ret ?_ | refine blockA_normal ?_ | refine thenA_ret ?_ | refine thenA_exit ?_ | refine thenA_normal ?_)
            simp (maxSteps := 4000000) only [go_sem, h0]
            try rfl
  · rw [if_neg h0]
    have hz : (e != 0) = true := by simpa using h0
    have e3 : spanRows [] = [] := rfl
    refine fn_walk 96 Tryz.call102 Tryz.func102 rfl (by decide) fun J => ?_
    simp (maxSteps := 4000000) only [go_sem, St.start, Tryz.ntmps102, Tryz.results102, Limits.row]
    repeat (first | refine walkL_true rfl ?_ | refine walkL_false rfl ?_ | refine walkL_seq ?_ | refine walkL_skip ?_ | refine walkL_block ?_ | (refine walkL_region fun K hK => ?_; simp (maxSteps := 4000000) only [go_sem, hz]; (repeat (first | (refine ⟨_, .lent (hf := h67) (hd := rfl) (hr := rfl), ?_⟩; simp (maxSteps := 4000000) only [go_sem, hz]) | (refine ⟨_, .given (hf := h67) (hd := rfl) (ha := rfl), ?_⟩; simp (maxSteps := 4000000) only [go_sem, hz]))); refine hK _ ?_; clear hK K) | refine walkL_nil ?_ | refine walkL_ret ?_ | refine walkL_exit ?_ | refine blockA_here ?_ | refine blockA_other rfl ?_ | refine blockA_ret ?_ | refine blockA_normal ?_ | refine thenA_ret ?_ | refine thenA_exit ?_ | refine thenA_normal ?_)
    simp (maxSteps := 4000000) only [go_sem, e3]
    try rfl
theorem begins_lt {n : Int} (hn : 1 ≤ n) : ∀ (b : List Bool) (i : Nat) (run : Int), 0 ≤ beginsFrom n b i run → beginsFrom n b i run < i + b.length
  | [], i, run => by
    rw [beginsFrom]
    intro h
    omega
  | x :: b, i, run => by
    rw [beginsFrom, List.length_cons]
    generalize (if x then run + 1 else 0) = r
    have := begins_lt hn b (i + 1) r
    by_cases h : r = n
    · rw [if_pos h]; omega
    · rw [if_neg h]; omega
theorem begins_lowW {n : Int} (hn : 1 ≤ n) : ∀ (b : List Bool) (i : Nat) (run : Int), run < i + 1 → 0 ≤ run → -1 ≤ beginsFrom n b i run
  | [], i, run, _, _ => by rw [beginsFrom]; omega
  | x :: b, i, run, h1, h2 => by
    rw [beginsFrom]
    have hr : (if x then run + 1 else 0) < (i : Int) + 2 ∧ 0 ≤ (if x then run + 1 else 0) := by split <;> omega
    generalize (if x then run + 1 else 0) = r at hr
    by_cases h : r = n
    · rw [if_pos h]; omega
    · rw [if_neg h]
      exact begins_lowW hn b (i + 1) r (by push_cast; omega) hr.2
theorem first_step {H a x : Int} (h1 : 0 ≤ a ∧ a ≤ H) (h2 : -1 ≤ x ∧ x < H) :
    (if (if decide (x ≥ 0) then min a x else a) = H then (-1 : Int) else (if decide (x ≥ 0) then min a x else a)) =
      if (decide (x ≥ 0) && (decide ((if a = H then (-1 : Int) else a) < 0) || decide (x < (if a = H then (-1 : Int) else a)))) = true then x else (if a = H then (-1 : Int) else a) := by
  simp only [Bool.and_eq_true, Bool.or_eq_true, decide_eq_true_eq]
  by_cases hx0 : x ≥ 0
  · simp only [hx0, if_true, true_and]
    by_cases ha : a = H
    · simp only [ha, if_true]
      rw [if_neg (by omega), if_pos (.inl (by decide))]
      omega
    · simp only [ha, if_false]
      rw [if_neg (by omega)]
      by_cases hxa : x < a
      · rw [if_pos (.inr hxa)]; omega
      · rw [if_neg (by omega)]; omega
  · simp only [hx0, if_false, false_and]
theorem zf72 (F : List (List Hour)) (seen : List Sight) (l : Limits) (n : Int) (hs : ForeSmall F) (hsl : seen.length < 2 ^ 30) :
    Fn Tryz.prog 72 [.agg [.sl (scenRows F)], .sl (sightRows seen), .agg l.row, .i n] (.tup [.i (windowF F seen l n).1, .i (windowF F seen l n).2.1, .i (windowF F seen l n).2.2]) := by
  have h67 := zf113 F seen l (withinB n 1 48) hs hsl
  have h72 := zf101 n 1 48
  obtain ⟨w, hw0⟩ : ∃ w, w = withinB n 1 48 := ⟨_, rfl⟩
  unfold windowF
  rw [← hw0] at h67 h72 ⊢
  obtain ⟨e, he⟩ : ∃ e, e = lookF F seen (limE l) w := ⟨_, rfl⟩
  rw [← he] at h67 ⊢
  rw [Limits.row] at h67
  by_cases h0 : e = 0
  · rw [if_pos h0]
    have hz : (e != 0) = false := by simp [h0]
    rw [h0] at he
    obtain ⟨hg, hsi, hne, hlim, hwt⟩ := look_all he.symm
    rw [hwt] at hw0
    have hn := within_iff.1 hw0.symm
    have hlb : limB l = true := by
      unfold limE at hlim
      split at hlim
      · assumption
      · cases hlim
    have hp := poss_of he.symm hlb
    have h57 := zf106 F seen hg hsi
    obtain ⟨N, hN⟩ : ∃ N, N = numsOf (possL F seen) := ⟨_, rfl⟩
    obtain ⟨S, hS⟩ : ∃ S, S = scensOf (possL F seen) := ⟨_, rfl⟩
    obtain ⟨H, hHe⟩ : ∃ H, H = (hd0 F).length := ⟨_, rfl⟩
    rw [← hN, ← hS, ← hHe] at hp
    rw [← hS, ← hHe]
    rw [← hN] at h57
    have hlen := hp.len
    have hfew := hp.few
    have hH := hp.hours
    -- what the program's way of reckoning says of the document's
    have bnd : ∀ s ∈ S, ∀ q : Hour → Bool, -1 ≤ beginsF (s.map q) n ∧ beginsF (s.map q) n < (H : Int) := fun s hs q => by
      have hsH := hp.all s hs
      have h1 := begins_lt (n := n) (by omega) (s.map q) 0 0
      have h2 := begins_lowW (n := n) (by omega) (s.map q) 0 0 (by decide) (by decide)
      rw [List.length_map, hsH] at h1
      unfold beginsF
      refine ⟨h2, ?_⟩
      by_cases h : 0 ≤ beginsFrom n (s.map q) 0 0
      · have := h1 h; omega
      · omega
    have fst : ∀ i, i ≤ S.length → 0 ≤ winFirst l n (S.take i) H ∧ winFirst l n (S.take i) H ≤ H := by
      intro i
      induction i with
      | zero => intro _; simp [winFirst]
      | succ i ih =>
        intro hi
        obtain ⟨s, hx⟩ : ∃ s, S[i]? = some s := ⟨_, List.getElem?_eq_getElem (by omega)⟩
        have e1 : winFirst l n (S.take (i + 1)) H = if decide (beginsF (s.map (everB l)) n ≥ 0) then min (winFirst l n (S.take i) H) (beginsF (s.map (everB l)) n) else winFirst l n (S.take i) H := foldl_take_succ _ _ _ _ _ hx
        have := ih (by omega)
        rw [e1]
        split
        · rename_i hd
          have := of_decide_eq_true hd
          omega
        · omega
    obtain ⟨fr, hfr⟩ : ∃ fr : Nat → Int, fr = fun i => if winFirst l n (S.take i) H = H then -1 else winFirst l n (S.take i) H := ⟨_, rfl⟩
    have fr0 : fr 0 = -1 := by rw [hfr]; simp [winFirst]
    have frs : ∀ i s, S[i]? = some s → fr (i + 1) = if (decide (beginsF (s.map (everB l)) n ≥ 0) && (decide (fr i < 0) || decide (beginsF (s.map (everB l)) n < fr i))) = true then beginsF (s.map (everB l)) n else fr i := fun i s hx => by
      have e1 : winFirst l n (S.take (i + 1)) H = if decide (beginsF (s.map (everB l)) n ≥ 0) then min (winFirst l n (S.take i) H) (beginsF (s.map (everB l)) n) else winFirst l n (S.take i) H := foldl_take_succ _ _ _ _ _ hx
      have hi := (List.getElem?_eq_some_iff.1 hx).1
      have h1 := fst i (by omega)
      have h2 := bnd s (List.mem_of_getElem? hx) (everB l)
      rw [hfr]
      dsimp only
      rw [e1]
      exact first_step h1 h2
    have frH : (if winFirst l n S H = H then (-1 : Int) else winFirst l n S H) = fr S.length := by rw [hfr]; dsimp only; rw [List.take_length]
    obtain ⟨la, hla⟩ : ∃ la : Nat → Int, la = fun i => (S.take i).foldl (fun a s => max a (beginsF (s.map (alwaysB l)) n)) 0 := ⟨_, rfl⟩
    have la0 : la 0 = 0 := by rw [hla]; rfl
    have las : ∀ i s, S[i]? = some s → la (i + 1) = max (la i) (beginsF (s.map (alwaysB l)) n) := fun i s hx => by
      rw [hla]; exact foldl_take_succ _ _ _ _ _ hx
    have lag : winNever l n S = false → winLast l n S = la S.length := fun hnv => by
      have key : ∀ i, i ≤ S.length → la i = max 0 (winLast l n (S.take i)) := by
        intro i
        induction i with
        | zero => intro _; rw [la0]; rfl
        | succ i ih =>
          intro hi
          obtain ⟨s, hx⟩ : ∃ s, S[i]? = some s := ⟨_, List.getElem?_eq_getElem (by omega)⟩
          have e1 : winLast l n (S.take (i + 1)) = max (winLast l n (S.take i)) (beginsF (s.map (alwaysB l)) n) := foldl_take_succ _ _ _ _ _ hx
          rw [las i s hx, e1, ih (by omega)]
          omega
      have := key S.length (Nat.le_refl _)
      rw [List.take_length] at this
      rw [this]
      obtain ⟨s, hx⟩ : ∃ s, S[S.length - 1]? = some s := ⟨_, List.getElem?_eq_getElem (by have := hp.pos; omega)⟩
      have e1 : winLast l n (S.take (S.length - 1 + 1)) = max (winLast l n (S.take (S.length - 1))) (beginsF (s.map (alwaysB l)) n) := foldl_take_succ _ _ _ _ _ hx
      rw [show S.length - 1 + 1 = S.length by have := hp.pos; omega, List.take_length] at e1
      have : 0 ≤ beginsF (s.map (alwaysB l)) n := by
        unfold winNever at hnv
        rw [List.any_eq_false] at hnv
        have := hnv s (List.mem_of_getElem? hx)
        simp at this
        exact this
      rw [e1]
      omega
    have wv : (if winNever l n S = true then (-1 : Int) else winLast l n S) = if winNever l n S = true then (-1 : Int) else la S.length := by
      cases hnv : winNever l n S
      · simp only [Bool.false_eq_true, if_false]; exact lag hnv
      · rfl
    rw [frH, wv]
    have nv0 : winNever l n (S.take 0) = false := rfl
    have nvs : ∀ i s, S[i]? = some s → winNever l n (S.take (i + 1)) = (winNever l n (S.take i) || decide (beginsF (s.map (alwaysB l)) n < 0)) := fun i s hx => by
      unfold winNever; rw [List.take_add_one, hx]; simp
    clear wv lag frH fst
    refine fn_walk 77 Tryz.call72 Tryz.func72 rfl (by decide) fun J => ?_
    simp (maxSteps := 4000000) only [go_sem, St.start, Tryz.ntmps72, Tryz.results72, Limits.row]
    repeat (first | refine walkL_seq ?_ | refine walkL_skip ?_ | refine walkL_block ?_ | (refine walkL_region fun K hK => ?_; simp (maxSteps := 4000000) only [go_sem]; refine hK _ ?_; clear hK K) | refine walkL_nil ?_ | refine walkL_ret ?_ | refine walkL_exit ?_ | refine blockA_here ?_ | refine blockA_other rfl ?_ | refine blockA_ret ?_ | refine blockA_normal ?_ | refine thenA_ret ?_ | refine thenA_exit ?_ | refine thenA_normal ?_)
    refine walkL_drawn (by kernel_rfl) (by kernel_rfl) fun K hK => ?_
    simp (maxSteps := 4000000) only [go_sem]
    refine ⟨_, .fn (hf := h72) (hd := rfl) (hr := .inl rfl), ?_⟩
    simp (maxSteps := 4000000) only [go_sem]
    refine ⟨_, .fn (hf := h67) (hd := rfl) (hr := .inr rfl), ?_⟩
    simp (maxSteps := 4000000) only [go_sem]
    refine ⟨by kernel_rfl, hK _ ?_⟩
    clear hK K
    repeat (first | refine walkL_true rfl ?_ | refine walkL_false rfl ?_ | refine walkL_seq ?_ | refine walkL_skip ?_ | refine walkL_block ?_ | (refine walkL_region fun K hK => ?_; simp (maxSteps := 4000000) only [go_sem, hz]; (repeat (first | (refine ⟨_, .lent (hf := h57) (hd := rfl) (hr := rfl), ?_⟩; simp (maxSteps := 4000000) only [go_sem, hz]) | (refine ⟨_, .given (hf := h57) (hd := rfl) (ha := rfl), ?_⟩; simp (maxSteps := 4000000) only [go_sem, hz]))); refine hK _ ?_; clear hK K) | refine walkL_nil ?_ | refine walkL_ret ?_ | refine walkL_exit ?_ | refine blockA_here ?_ | refine blockA_other rfl ?_ | refine blockA_ret ?_ | refine blockA_normal ?_ | refine thenA_ret ?_ | refine thenA_exit ?_ | refine thenA_normal ?_)
    refine walkL_loopS (fun (i : Nat) => [(14, .d (.i i)), (8, .d (.i (fr i))), (9, .d (.i (la i))), (12, .d (.bool (winNever l n (S.take i)))), (15, .undef), (16, .undef), (17, .undef), (18, .undef)]) (fun _ => []) (fun i => i ≤ S.length) (fun i => S.length - i) 0 ?_ (Nat.zero_le _) ?_
    · simp (maxSteps := 4000000) only [go_sem, fr0, la0, nv0]
      refine weak_of [] ?_ ?_ rfl rfl <;> simp [lessT, lessM, lessB, AV.less]
      all_goals first | done | rfl | exact ⟨rfl, rfl⟩ | exact ⟨rfl, rfl, rfl⟩ | simp [fr0, la0, nv0]
    · intro i hi
      have wN : (N.length : Int) = (S.length : Int) := by omega
      simp (maxSteps := 4000000) only [go_sem]
      repeat (first | refine walkL_seq ?_ | refine walkL_skip ?_ | refine walkL_block ?_ | (refine walkL_region fun K hK => ?_; simp (maxSteps := 4000000) only [go_sem, intRows_len, wN]; refine hK _ ?_; clear hK K) | refine walkL_nil ?_ | refine walkL_ret ?_ | refine walkL_exit ?_ | refine blockA_here ?_ | refine blockA_other rfl ?_ | refine blockA_ret ?_ | refine blockA_normal ?_ | refine thenA_ret ?_ | refine thenA_exit ?_ | refine thenA_normal ?_)
      refine walkL_cond rfl (fun hb => ?_) (fun hb => ?_)
      · have hlt : i < S.length := by simpa using hb
        have hw : IntKind.i64.wrap ((i : Int) + 1) = ((i + 1 : Nat) : Int) := by rw [wr_small (by omega)]; simp
        obtain ⟨s, hx⟩ : ∃ s, S[i]? = some s := ⟨_, List.getElem?_eq_getElem hlt⟩
        obtain ⟨k, hk, hk0, h68⟩ := hp.get i s hx
        have hsH := hp.all s (List.mem_of_getElem? hx)
        have gk := intRows_at hk
        rw [Limits.row] at h68
        have c1 := zf115 (s.map (everB l)) n ⟨by omega, by omega⟩ (by simp; omega)
        have c2 := zf115 (s.map (alwaysB l)) n ⟨by omega, by omega⟩ (by simp; omega)
        have n1 := frs i s hx
        have n2 := las i s hx
        have n3 := nvs i s hx
        obtain ⟨x, hx1⟩ : ∃ x, x = beginsF (s.map (everB l)) n := ⟨_, rfl⟩
        obtain ⟨y, hy1⟩ : ∃ y, y = beginsF (s.map (alwaysB l)) n := ⟨_, rfl⟩
        rw [← hx1] at c1 n1
        rw [← hy1] at c2 n2 n3
        obtain ⟨a, ha⟩ : ∃ a, a = fr i := ⟨_, rfl⟩
        obtain ⟨b, hb0⟩ : ∃ b, b = la i := ⟨_, rfl⟩
        obtain ⟨c, hc0⟩ : ∃ c, c = winNever l n (S.take i) := ⟨_, rfl⟩
        rw [← ha] at n1 ⊢
        rw [← hb0] at n2 ⊢
        rw [← hc0] at n3 ⊢
        cases qx : decide (x ≥ 0) <;> cases qa : decide (a < 0) <;> cases qxa : decide (x < a) <;> cases c
        all_goals
          rw [qx, qa, qxa] at n1
          simp only [Bool.false_or, Bool.true_or, Bool.false_and, Bool.true_and, Bool.false_eq_true, if_false, if_true] at n1 n3
          repeat (first | refine walkL_seq ?_ | refine walkL_skip ?_ | refine walkL_block ?_ | (refine walkL_region fun K hK => ?_; simp (maxSteps := 4000000) only [go_sem]; refine hK _ ?_; clear hK K) | refine walkL_nil ?_ | refine walkL_ret ?_ | refine walkL_exit ?_ | refine blockA_here ?_ | refine blockA_other rfl ?_ | refine blockA_ret ?_ | refine blockA_normal ?_ | refine thenA_ret ?_ | refine thenA_exit ?_ | refine thenA_normal ?_)
          refine walkL_drawn (by kernel_rfl) (by kernel_rfl) fun K hK => ?_
          simp (maxSteps := 4000000) only [go_sem, gk]
          refine ⟨_, .fn (hf := h68) (hd := rfl) (hr := .inr rfl), ?_⟩
          simp (maxSteps := 4000000) only [go_sem]
          refine ⟨by kernel_rfl, hK _ ?_⟩
          clear hK K
          repeat (first | refine walkL_true rfl ?_ | refine walkL_false rfl ?_ | refine walkL_seq ?_ | refine walkL_skip ?_ | refine walkL_block ?_ | (refine walkL_region fun K hK => ?_; simp (maxSteps := 4000000) only [go_sem, qx, qa, qxa, hw]; (repeat (first | (refine ⟨_, .lent (hf := c1) (hd := rfl) (hr := rfl), ?_⟩; simp (maxSteps := 4000000) only [go_sem, qx, qa, qxa, hw]) | (refine ⟨_, .lent (hf := c2) (hd := rfl) (hr := rfl), ?_⟩; simp (maxSteps := 4000000) only [go_sem, qx, qa, qxa, hw]) | (refine ⟨_, .given (hf := c1) (hd := rfl) (ha := rfl), ?_⟩; simp (maxSteps := 4000000) only [go_sem, qx, qa, qxa, hw]) | (refine ⟨_, .given (hf := c2) (hd := rfl) (ha := rfl), ?_⟩; simp (maxSteps := 4000000) only [go_sem, qx, qa, qxa, hw]))); refine hK _ ?_; clear hK K) | refine walkL_nil ?_ | refine walkL_ret ?_ | refine walkL_exit ?_ | refine blockA_here ?_ | refine blockA_other rfl ?_ | refine blockA_ret ?_ | refine blockA_normal ?_ | refine thenA_ret ?_ | refine thenA_exit ?_ | refine thenA_normal ?_)
          refine ⟨rfl, i + 1, ?_, hlt, by omega⟩
          rw [n1, n2, n3]
          refine weak_of [] ?_ ?_ rfl rfl <;> simp [lessT, lessM, lessB, AV.less]
          all_goals first | done | rfl | exact ⟨rfl, rfl⟩ | exact ⟨rfl, rfl, rfl⟩
      · have he : i = S.length := by (have : ¬ i < S.length := by simpa using hb); omega
        subst he
        rw [List.take_length]
        obtain ⟨a, ha⟩ : ∃ a, a = fr S.length := ⟨_, rfl⟩
        obtain ⟨b, hb0⟩ : ∃ b, b = la S.length := ⟨_, rfl⟩
        obtain ⟨c, hc0⟩ : ∃ c, c = winNever l n S := ⟨_, rfl⟩
        rw [← ha, ← hb0, ← hc0]
        cases c
        all_goals
          repeat (first | refine walkL_true rfl ?_ | refine walkL_false rfl ?_ | refine walkL_seq ?_ | refine walkL_skip ?_ | refine walkL_block ?_ | (refine walkL_region fun K hK => ?_; simp (maxSteps := 4000000) only [go_sem]; refine hK _ ?_; clear hK K) | refine walkL_nil ?_ | refine walkL_ret ?_ | refine walkL_exit ?_ | refine blockA_here ?_ | refine blockA_other rfl ?_ | refine blockA_ret ?_ | refine blockA_normal ?_ | refine thenA_ret ?_ | refine thenA_exit ?_ | refine thenA_normal ?_)
          simp (maxSteps := 4000000) only [go_sem, h0, Bool.false_eq_true, if_false, if_true]
          try rfl
  · rw [if_neg h0]
    have hz : (e != 0) = true := by simpa using h0
    refine fn_walk 77 Tryz.call72 Tryz.func72 rfl (by decide) fun J => ?_
    simp (maxSteps := 4000000) only [go_sem, St.start, Tryz.ntmps72, Tryz.results72, Limits.row]
    repeat (first | refine walkL_seq ?_ | refine walkL_skip ?_ | refine walkL_block ?_ | (refine walkL_region fun K hK => ?_; simp (maxSteps := 4000000) only [go_sem]; refine hK _ ?_; clear hK K) | refine walkL_nil ?_ | refine walkL_ret ?_ | refine walkL_exit ?_ | refine blockA_here ?_ | refine blockA_other rfl ?_ | refine blockA_ret ?_ | refine blockA_normal ?_ | refine thenA_ret ?_ | refine thenA_exit ?_ | refine thenA_normal ?_)
    refine walkL_drawn (by kernel_rfl) (by kernel_rfl) fun K hK => ?_
    simp (maxSteps := 4000000) only [go_sem]
    refine ⟨_, .fn (hf := h72) (hd := rfl) (hr := .inl rfl), ?_⟩
    simp (maxSteps := 4000000) only [go_sem]
    refine ⟨_, .fn (hf := h67) (hd := rfl) (hr := .inr rfl), ?_⟩
    simp (maxSteps := 4000000) only [go_sem]
    refine ⟨by kernel_rfl, hK _ ?_⟩
    clear hK K
    repeat (first | refine walkL_true rfl ?_ | refine walkL_false rfl ?_ | refine walkL_seq ?_ | refine walkL_skip ?_ | refine walkL_block ?_ | (refine walkL_region fun K hK => ?_; simp (maxSteps := 4000000) only [go_sem, hz]; refine hK _ ?_; clear hK K) | refine walkL_nil ?_ | refine walkL_ret ?_ | refine walkL_exit ?_ | refine blockA_here ?_ | refine blockA_other rfl ?_ | refine blockA_ret ?_ | refine blockA_normal ?_ | refine thenA_ret ?_ | refine thenA_exit ?_ | refine thenA_normal ?_)
    simp (maxSteps := 4000000) only [go_sem]
    try rfl
end Go.Ab
namespace Go.Ab
open Go.RowKit Go.Proofs
set_option maxHeartbeats 16000000
set_option maxRecDepth 20000
attribute [local irreducible] WalkL Walk
theorem zf63 (s : Supply) (h0 : suppE s = 0) (hs : SuppSmall s) {c h : Nat} (hc : c < s.carr.length) (hh : h < s.hours) : Fn Tryz.prog 63 [.agg s.cells, .i (c : Int), .i (h : Int)] (.i (ldAt s.loads c h)) := by
  have h6 := small6 h0
  have hH := h6.hours
  have hlk := supp_look h0
  obtain ⟨k, hk⟩ : ∃ k, s.carr[c]? = some k := ⟨_, List.getElem?_eq_getElem hc⟩
  obtain ⟨⟨r1, r2, r3⟩, hlb⟩ := carr_good h0 (List.mem_of_getElem? hk)
  have gc := carrRows_at hk
  rw [Carrier.row] at gc
  have c41 := zf102 s.scen s.seen k.lim hs.fore hs.seen
  have hlim : limE k.lim = 0 := by rw [limE, if_pos hlb]
  rw [keepsF, hlim, if_pos hlk] at c41
  change Fn Tryz.prog 102 _ (.tup [.sl (spanRows (sureC s.scens s.hours k)), _, _]) at c41
  have c40 := zf103 s.scen s.seen (h : Int) hs.fore hs.seen
  have hw : withinB (h : Int) 0 ((hd0 s.scen).length - 1) = true := within_iff.2 (by have : (hd0 s.scen).length = s.hours := rfl; omega)
  rw [rangeF, hw, if_pos hlk] at c40
  obtain ⟨e1, e2, e3⟩ := loadOf_range h0 (List.mem_of_getElem? hk) hh
  have e1' : loadOf s.scens k h = max 0 (wr (k.lift - wr (k.heat * heatF s.scens h))) := rfl
  rw [ldAt_eq hk hh]
  obtain ⟨sp, hsp⟩ : ∃ sp, sp = sureC s.scens s.hours k := ⟨_, rfl⟩
  rw [← hsp] at c41 ⊢
  have hspl : sp.length ≤ s.hours := by rw [hsp]; exact spansQ_len _ _
  obtain ⟨may, hmay⟩ : ∃ may, may = spanRows (spansQ (fun i => (scensOf (possL s.scen s.seen)).any fun z => everB k.lim (hourAt z (i : Int))) (hd0 s.scen).length) := ⟨_, rfl⟩
  dsimp only at c41 c40
  rw [← hmay] at c41
  rw [Limits.row] at c41
  change Fn Tryz.prog 103 _ (.tup [.agg (hullAll s.scens (h : Int)).row, .i 0]) at c40
  obtain ⟨hu, hhu⟩ : ∃ hu, hu = hullAll s.scens (h : Int) := ⟨_, rfl⟩
  have hheat : heatF s.scens h = max 0 hu.temp.hi := by rw [hhu]; rfl
  rw [← hhu] at c40
  rw [Hour.row] at c40
  rw [hheat] at e1'
  rw [e1']
  have hnc : ¬ ((c : Int) < 0) := by omega
  refine fn_walk 74 Tryz.call63 Tryz.func63 rfl (by decide) fun J => ?_
  simp (maxSteps := 4000000) only [go_sem, St.start, Tryz.ntmps63, Tryz.results63, Supply.cells]
  repeat (first | refine walkL_seq ?_ | refine walkL_skip ?_ | refine walkL_block ?_ | (refine walkL_region fun K hK => ?_; simp (maxSteps := 4000000) only [go_sem, gc, hnc]; (repeat (first | (refine ⟨_, .lent (hf := c41) (hd := rfl) (hr := rfl), ?_⟩; simp (maxSteps := 4000000) only [go_sem, gc, hnc]) | (refine ⟨_, .given (hf := c41) (hd := rfl) (ha := rfl), ?_⟩; simp (maxSteps := 4000000) only [go_sem, gc, hnc]))); refine hK _ ?_; clear hK K) | refine walkL_nil ?_ | refine walkL_ret ?_ | refine walkL_exit ?_ | refine blockA_here ?_ | refine blockA_other rfl ?_ | refine blockA_ret ?_ | refine blockA_normal ?_ | refine thenA_ret ?_ | refine thenA_exit ?_ | refine thenA_normal ?_)
  refine walkL_loopS (fun (i : Nat) => [(12, .d (.i (i : Int))), (11, .d (.bool (inSp (sp.take i) h)))]) (fun _ => []) (fun i => i ≤ sp.length) (fun i => sp.length - i) 0 ?_ (Nat.zero_le _) ?_
  · simp (maxSteps := 4000000) only [go_sem, inSp, List.take_zero, List.any_nil]
    refine weak_of [] ?_ ?_ rfl rfl <;> simp [lessT, lessM, lessB, AV.less]
  · intro i hi
    simp (maxSteps := 4000000) only [go_sem]
    repeat (first | refine walkL_seq ?_ | refine walkL_skip ?_ | refine walkL_block ?_ | (refine walkL_region fun K hK => ?_; simp (maxSteps := 4000000) only [go_sem]; refine hK _ ?_; clear hK K) | refine walkL_nil ?_ | refine walkL_ret ?_ | refine walkL_exit ?_ | refine blockA_here ?_ | refine blockA_other rfl ?_ | refine blockA_ret ?_ | refine blockA_normal ?_ | refine thenA_ret ?_ | refine thenA_exit ?_ | refine thenA_normal ?_)
    refine walkL_cond rfl (fun hb => ?_) (fun hb => ?_)
    · have hlt : i < sp.length := by simpa using hb
      have hw : IntKind.i64.wrap ((i : Int) + 1) = ((i + 1 : Nat) : Int) := by rw [wr_small (by omega)]; simp
      obtain ⟨x, hx⟩ : ∃ x, sp[i]? = some x := ⟨_, List.getElem?_eq_getElem hlt⟩
      have gx := spanRows_at hx
      rw [Span.row] at gx
      have c62 := zf62 (h : Int) x.lo x.hi
      have hn : inSp (sp.take (i + 1)) h = (inSp (sp.take i) h || withinB (h : Int) x.lo x.hi) := by
        unfold inSp
        rw [List.take_add_one, hx]
        simp
      have hni : ¬ ((i : Int) < 0) := by omega
      repeat (first | refine walkL_seq ?_ | refine walkL_skip ?_ | refine walkL_block ?_ | (refine walkL_region fun K hK => ?_; simp (maxSteps := 4000000) only [go_sem]; refine hK _ ?_; clear hK K) | refine walkL_nil ?_ | refine walkL_ret ?_ | refine walkL_exit ?_ | refine blockA_here ?_ | refine blockA_other rfl ?_ | refine blockA_ret ?_ | refine blockA_normal ?_ | refine thenA_ret ?_ | refine thenA_exit ?_ | refine thenA_normal ?_)
      cases hq : inSp (sp.take i) h
      · rw [hq, Bool.false_or] at hn
        rw [← hn] at c62
        refine walkL_drawn (by kernel_rfl) (by kernel_rfl) fun K hK => ?_
        simp (maxSteps := 4000000) only [go_sem, gx, hni]
        refine ⟨_, .fn (hf := c62) (hd := rfl) (hr := .inl rfl), ?_⟩
        simp (maxSteps := 4000000) only [go_sem]
        refine ⟨by kernel_rfl, hK _ ?_⟩
        clear hK K
        repeat (first | refine walkL_seq ?_ | refine walkL_skip ?_ | refine walkL_block ?_ | (refine walkL_region fun K hK => ?_; simp (maxSteps := 4000000) only [go_sem, hw]; refine hK _ ?_; clear hK K) | refine walkL_nil ?_ | refine walkL_ret ?_ | refine walkL_exit ?_ | refine blockA_here ?_ | refine blockA_other rfl ?_ | refine blockA_ret ?_ | refine blockA_normal ?_ | refine thenA_ret ?_ | refine thenA_exit ?_ | refine thenA_normal ?_)
        refine ⟨rfl, i + 1, ?_, hlt, by omega⟩
        refine weak_of [] ?_ ?_ rfl rfl <;> simp [lessT, lessM, lessB, AV.less]
        all_goals first | done | rfl
      · rw [hq, Bool.true_or] at hn
        refine walkL_drawn (by kernel_rfl) (by kernel_rfl) fun K hK => ?_
        simp (maxSteps := 4000000) only [go_sem, gx, hni]
        refine ⟨by kernel_rfl, hK _ ?_⟩
        clear hK K
        repeat (first | refine walkL_seq ?_ | refine walkL_skip ?_ | refine walkL_block ?_ | (refine walkL_region fun K hK => ?_; simp (maxSteps := 4000000) only [go_sem, hw]; refine hK _ ?_; clear hK K) | refine walkL_nil ?_ | refine walkL_ret ?_ | refine walkL_exit ?_ | refine blockA_here ?_ | refine blockA_other rfl ?_ | refine blockA_ret ?_ | refine blockA_normal ?_ | refine thenA_ret ?_ | refine thenA_exit ?_ | refine thenA_normal ?_)
        refine ⟨rfl, i + 1, ?_, hlt, by omega⟩
        refine weak_of [] ?_ ?_ rfl rfl <;> simp [lessT, lessM, lessB, AV.less]
        all_goals first | done | exact hn | exact hn.symm
    · have he : i = sp.length := by (have : ¬ i < sp.length := by simpa using hb); omega
      subst he
      rw [List.take_length]
      cases hq : inSp sp h
      · repeat (first | refine walkL_true rfl ?_ | refine walkL_false rfl ?_ | refine walkL_seq ?_ | refine walkL_skip ?_ | refine walkL_block ?_ | (refine walkL_region fun K hK => ?_; simp (maxSteps := 4000000) only [go_sem]; refine hK _ ?_; clear hK K) | refine walkL_nil ?_ | refine walkL_ret ?_ | refine walkL_exit ?_ | refine blockA_here ?_ | refine blockA_other rfl ?_ | refine blockA_ret ?_ | refine blockA_normal ?_ | refine thenA_ret ?_ | refine thenA_exit ?_ | refine thenA_normal ?_)
        simp (maxSteps := 4000000) only [go_sem]
      · repeat (first | refine walkL_true rfl ?_ | refine walkL_false rfl ?_ | refine walkL_seq ?_ | refine walkL_skip ?_ | refine walkL_block ?_ | (refine walkL_region fun K hK => ?_; simp (maxSteps := 4000000) only [go_sem]; (repeat (first | (refine ⟨_, .lent (hf := c40) (hd := rfl) (hr := rfl), ?_⟩; simp (maxSteps := 4000000) only [go_sem]) | (refine ⟨_, .given (hf := c40) (hd := rfl) (ha := rfl), ?_⟩; simp (maxSteps := 4000000) only [go_sem]))); refine hK _ ?_; clear hK K) | refine walkL_nil ?_ | refine walkL_ret ?_ | refine walkL_exit ?_ | refine blockA_here ?_ | refine blockA_other rfl ?_ | refine blockA_ret ?_ | refine blockA_normal ?_ | refine thenA_ret ?_ | refine thenA_exit ?_ | refine thenA_normal ?_)
        simp (maxSteps := 4000000) only [go_sem]
end Go.Ab
