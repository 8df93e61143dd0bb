/- A walk engine over abstract states, and the contracts of the functions that the statement reaches: part 5. -/
import Derived.Test.YtldnaopmkgikkaaWd
set_option linter.unusedVariables false
set_option linter.unusedSimpArgs false
namespace Go.Ab
open Go.RowKit Go.Proofs
set_option maxHeartbeats 4000000
set_option maxRecDepth 20000
attribute [local irreducible] WalkL Walk

/-- Up to which path of a route the party can turn back. -/
def turnF (n : Net) (p : Party) (by1 : List Int) : List Int → Int → Nat → Int
  | [], _, k => k
  | v :: r, t, k => if arriveF (pathAt n v).opens t (spanW (pathAt n v) p).hi > getI by1 (pathAt n v).to then k else turnF n p by1 r (arriveF (pathAt n v).opens t (spanW (pathAt n v) p).hi) (k + 1)
def turnL (n : Net) (p : Party) (route : List Int) (frm start home deadline : Int) : Int × Int :=
  if openF n p [frm, home] [start, deadline] = 0 then
    if isRouteB n p frm route then
      if start > getI (deadlinesL n p home deadline) frm then (-1, 0) else (turnF n p (deadlinesL n p home deadline) route start 0, 0)
    else (0, 12)
  else (0, openF n p [frm, home] [start, deadline])

theorem walkR_on {n : Net} {p : Party} : ∀ {l : List Int} {f : Int}, (walkR n p f l).isSome = true → ∀ v ∈ l, onNet n v
  | [], _, _, _, h => by cases h
  | a :: l, f, hs, v, hv => by
    have hs' : (l.foldl (fun s i => s.bind fun g => onB n p g i) (onB n p f a)).isSome = true := hs
    cases ho : onB n p f a with
    | none => rw [ho, walkR_none] at hs'; cases hs'
    | some g =>
      rw [ho] at hs'
      rcases List.mem_cons.1 hv with rfl | hv
      · unfold onB at ho
        split at ho
        · rename_i hw
          obtain ⟨h1, h2⟩ := within_iff.1 hw
          exact ⟨h1, by omega⟩
        · cases ho
      · exact walkR_on (f := g) hs' v hv

theorem isRoute_on {n : Net} {p : Party} {l : List Int} {f : Int} (h : isRouteB n p f l = true) : ∀ v ∈ l, onNet n v := by
  unfold isRouteB at h
  exact walkR_on (Bool.and_eq_true_iff.1 h).1

theorem f34 (n : Net) (p : Party) (route : List Int) (frm start home deadline : Int) (hs : n.Small) (hr : route.length < 2 ^ 30) : Fn Try.prog 34 [.agg n.cells, .agg p.cells, .sl (intRows route), .i frm, .i start, .i home, .i deadline]
    (.tup [.i (turnL n p route frm start home deadline).1, .i (turnL n p route frm start home deadline).2]) := by
  have h41 := f41 n p [frm, home] [start, deadline] hs (by simp) (by simp)
  have h78 := f78 n p route frm hs.paths hr
  refine fn_walk 87 Try.call34 Try.func34 rfl (by decide) fun J => ?_
  simp (maxSteps := 4000000) only [go_sem, St.start, Try.ntmps34, Try.results34, Net.cells, Party.cells]
  by_cases hop : openF n p [frm, home] [start, deadline] = 0
  · by_cases hro : isRouteB n p frm route = true
    · have ho := open_iff.1 hop
      have hfr := ho.place frm (by simp)
      have hto := ho.place home (by simp)
      have hpl := ho.net.places
      have h54 := f54 n p home deadline ho.net.ok ho.net.hi hto
      obtain ⟨D, hD⟩ : ∃ D, D = deadlinesL n p home deadline := ⟨_, rfl⟩
      have hlen : D.length = n.places.toNat := hD ▸ deadlines_len n p home deadline
      rw [← hD] at h54
      have hg : (intRows D)[frm.toNat]? = some [.i (getI D frm)] := intRows_get hfr.1 (by omega)
      have hlt0 : frm.toNat < (intRows D).length := by rw [intRows_len]; omega
      repeat (first | refine walkL_seq ?_ | refine walkL_skip ?_ | refine walkL_block ?_ | (refine walkL_region fun K hK => ?_; simp (maxSteps := 4000000) only [go_sem, walkCells, hop, hro]; (repeat (first | (refine ⟨_, .lent (hf := h41) (hd := rfl) (hr := rfl), ?_⟩; simp (maxSteps := 4000000) only [go_sem, walkCells, hop, hro]) | (refine ⟨_, .lent (hf := h78) (hd := rfl) (hr := rfl), ?_⟩; simp (maxSteps := 4000000) only [go_sem, walkCells, hop, hro]) | (refine ⟨_, .given (hf := h41) (hd := rfl) (ha := rfl), ?_⟩; simp (maxSteps := 4000000) only [go_sem, walkCells, hop, hro]) | (refine ⟨_, .given (hf := h78) (hd := rfl) (ha := rfl), ?_⟩; simp (maxSteps := 4000000) only [go_sem, walkCells, hop, hro]))); refine hK _ ?_; clear hK K) | refine walkL_nil ?_ | refine walkL_ret ?_ | refine walkL_exit ?_ | refine blockA_here ?_ | refine blockA_other rfl ?_ | refine blockA_ret ?_ | refine blockA_normal ?_ | refine thenA_ret ?_ | refine thenA_exit ?_ | refine thenA_normal ?_)
      refine walkL_false rfl ?_
      repeat (first | refine walkL_seq ?_ | refine walkL_skip ?_ | refine walkL_block ?_ | (refine walkL_region fun K hK => ?_; simp (maxSteps := 4000000) only [go_sem]; refine hK _ ?_; clear hK K) | refine walkL_nil ?_ | refine walkL_ret ?_ | refine walkL_exit ?_ | refine blockA_here ?_ | refine blockA_other rfl ?_ | refine blockA_ret ?_ | refine blockA_normal ?_ | refine thenA_ret ?_ | refine thenA_exit ?_ | refine thenA_normal ?_)
      refine walkL_false rfl ?_
      repeat (first | refine walkL_seq ?_ | refine walkL_skip ?_ | refine walkL_block ?_ | (refine walkL_region fun K hK => ?_; simp (maxSteps := 4000000) only [go_sem]; refine hK _ ?_; clear hK K) | refine walkL_nil ?_ | refine walkL_ret ?_ | refine walkL_exit ?_ | refine blockA_here ?_ | refine blockA_other rfl ?_ | refine blockA_ret ?_ | refine blockA_normal ?_ | refine thenA_ret ?_ | refine thenA_exit ?_ | refine thenA_normal ?_)
      refine walkL_region fun K hK => ?_
      simp (maxSteps := 4000000) only [go_sem]
      refine ⟨_, .lentS (hdst := rfl) (hf := h54) (hd := rfl) (hr := rowsFlat_int _) (hfr := rfl), ?_⟩
      simp (maxSteps := 4000000) only [go_sem]
      refine hK _ ?_
      clear hK K
      repeat (first | refine walkL_seq ?_ | refine walkL_skip ?_ | refine walkL_block ?_ | (refine walkL_region fun K hK => ?_; simp (maxSteps := 4000000) only [go_sem, hg, hlt0, hfr.1]; refine hK _ ?_; clear hK K) | refine walkL_nil ?_ | refine walkL_ret ?_ | refine walkL_exit ?_ | refine blockA_here ?_ | refine blockA_other rfl ?_ | refine blockA_ret ?_ | refine blockA_normal ?_ | refine thenA_ret ?_ | refine thenA_exit ?_ | refine thenA_normal ?_)
      refine walkL_cond rfl (fun hc => ?_) (fun hc => ?_)
      · have hc' : start > getI D frm := by simpa using hc
        have hf : turnL n p route frm start home deadline = (-1, 0) := by simp [turnL, hop, hro, ← hD, hc']
        repeat (first | refine walkL_seq ?_ | refine walkL_skip ?_ | refine walkL_block ?_ | (refine walkL_region fun K hK => ?_; simp (maxSteps := 4000000) only [go_sem]; refine hK _ ?_; clear hK K) | refine walkL_nil ?_ | refine walkL_ret ?_ | refine walkL_exit ?_ | refine blockA_here ?_ | refine blockA_other rfl ?_ | refine blockA_ret ?_ | refine blockA_normal ?_ | refine thenA_ret ?_ | refine thenA_exit ?_ | refine thenA_normal ?_)
        simp (maxSteps := 4000000) only [go_sem, hf]
      · have hc' : ¬ start > getI D frm := by simpa using hc
        have hf : turnL n p route frm start home deadline = (turnF n p D route start 0, 0) := by simp only [turnL, hop, hro, ← hD, hc', if_true, if_false]
        rw [hf]
        repeat (first | refine walkL_seq ?_ | refine walkL_skip ?_ | refine walkL_block ?_ | (refine walkL_region fun K hK => ?_; simp (maxSteps := 4000000) only [go_sem, intRows_len]; refine hK _ ?_; clear hK K) | refine walkL_nil ?_ | refine walkL_ret ?_ | refine walkL_exit ?_ | refine blockA_here ?_ | refine blockA_other rfl ?_ | refine blockA_ret ?_ | refine blockA_normal ?_ | refine thenA_ret ?_ | refine thenA_exit ?_ | refine thenA_normal ?_)
        refine walkL_loopS (fun (a : Nat × Int) => [(58, .d (.i a.1)), (4, .d (.i a.2)), (19, .undef), (20, .undef)]) (fun _ => []) (fun a => a.1 ≤ route.length ∧ turnF n p D (route.drop a.1) a.2 a.1 = turnF n p D route start 0) (fun a => route.length - a.1) (0, start) ?_ ⟨Nat.zero_le _, rfl⟩ ?_
        · simp (maxSteps := 4000000) only [go_sem]
          refine weak_of [] ?_ ?_ rfl rfl <;> simp [lessT, lessM, lessB, AV.less]
        · intro ⟨i, t⟩ ⟨hi, hall⟩
          dsimp only at hi hall
          simp (maxSteps := 4000000) only [go_sem]
          repeat (first | refine walkL_seq ?_ | refine walkL_skip ?_ | refine walkL_block ?_ | (refine walkL_region fun K hK => ?_; simp (maxSteps := 4000000) only [go_sem]; refine hK _ ?_; clear hK K) | refine walkL_nil ?_ | refine walkL_ret ?_ | refine walkL_exit ?_ | refine blockA_here ?_ | refine blockA_other rfl ?_ | refine blockA_ret ?_ | refine blockA_normal ?_ | refine thenA_ret ?_ | refine thenA_exit ?_ | refine thenA_normal ?_)
          refine walkL_cond rfl (fun hb => ?_) (fun hb => ?_)
          · have hlt : i < route.length := by simpa using hb
            have hw : IntKind.i64.wrap ((i : Int) + 1) = ((i + 1 : Nat) : Int) := by rw [wr_small (by omega)]; simp
            obtain ⟨v, hv⟩ : ∃ v, route[i]? = some v := ⟨_, List.getElem?_eq_getElem hlt⟩
            have g1 := intRows_at hv
            obtain ⟨hv0, hv1⟩ := isRoute_on hro v (List.mem_of_getElem? hv)
            obtain ⟨j, rfl⟩ : ∃ j : Nat, v = (j : Int) := ⟨v.toNat, by omega⟩
            obtain ⟨x, hx⟩ : ∃ x, n.paths[j]? = some x := ⟨_, List.getElem?_eq_getElem (by omega)⟩
            have hpa : pathAt n j = x := by simp [pathAt, List.getD, hx]
            have hxg := ho.net.path x (List.mem_of_getElem? hx)
            have hdr : route.drop i = (j : Int) :: route.drop (i + 1) := by
              rw [List.drop_eq_getElem_cons hlt]
              congr 1
              rw [List.getElem?_eq_getElem hlt] at hv
              exact Option.some.inj hv
            have hxo := hs.opens x (List.mem_of_getElem? hx)
            rw [hdr, turnF, hpa] at hall
            obtain ⟨u, hu⟩ : ∃ u, u = arriveF x.opens t (spanW x p).hi := ⟨_, rfl⟩
            rw [← hu] at hall
            have h50 : Fn Try.prog 50 [.agg (walkCells n p), .i j, .i t, .i (spanW x p).hi] (.i u) := hu ▸ f50 n p j x t (spanW x p).hi hx (by omega)
            rw [walkCells] at h50
            have h51 := f51 n p j x hx
            rw [walkCells] at h51
            have hgt : (intRows D)[x.to.toNat]? = some [.i (getI D x.to)] := intRows_get hxg.to.1 (by have := hxg.to.2; omega)
            have hltt : x.to.toNat < (intRows D).length := by rw [intRows_len]; have := hxg.to; omega
            repeat (first | refine walkL_seq ?_ | refine walkL_skip ?_ | refine walkL_block ?_ | (refine walkL_region fun K hK => ?_; simp (maxSteps := 4000000) only [go_sem, g1]; refine hK _ ?_; clear hK K) | refine walkL_nil ?_ | refine walkL_ret ?_ | refine walkL_exit ?_ | refine blockA_here ?_ | refine blockA_other rfl ?_ | refine blockA_ret ?_ | refine blockA_normal ?_ | refine thenA_ret ?_ | refine thenA_exit ?_ | refine thenA_normal ?_)
            refine walkL_drawn (by kernel_rfl) (by kernel_rfl) fun K hK => ?_
            simp (maxSteps := 4000000) only [go_sem, hx]
            refine ⟨_, .fn (hf := h51) (hd := rfl) (hr := .inl rfl), ?_⟩
            simp (maxSteps := 4000000) only [go_sem, Span.row]
            refine ⟨_, .fn (hf := h50) (hd := rfl) (hr := .inl rfl), ?_⟩
            simp (maxSteps := 4000000) only [go_sem]
            refine ⟨by kernel_rfl, hK _ ?_⟩
            clear hK K
            repeat (first | refine walkL_seq ?_ | refine walkL_skip ?_ | refine walkL_block ?_ | (refine walkL_region fun K hK => ?_; simp (maxSteps := 4000000) only [go_sem, hx, List.getElem?_map, Path.row, hgt, hltt, hxg.to.1]; refine hK _ ?_; clear hK K) | refine walkL_nil ?_ | refine walkL_ret ?_ | refine walkL_exit ?_ | refine blockA_here ?_ | refine blockA_other rfl ?_ | refine blockA_ret ?_ | refine blockA_normal ?_ | refine thenA_ret ?_ | refine thenA_exit ?_ | refine thenA_normal ?_)
            refine walkL_cond rfl (fun hc => ?_) (fun hc => ?_)
            · have hc' : u > getI D x.to := by simpa using hc
              rw [if_pos hc'] at hall
              repeat (first | refine walkL_seq ?_ | refine walkL_skip ?_ | refine walkL_block ?_ | (refine walkL_region fun K hK => ?_; simp (maxSteps := 4000000) only [go_sem]; refine hK _ ?_; clear hK K) | refine walkL_nil ?_ | refine walkL_ret ?_ | refine walkL_exit ?_ | refine blockA_here ?_ | refine blockA_other rfl ?_ | refine blockA_ret ?_ | refine blockA_normal ?_ | refine thenA_ret ?_ | refine thenA_exit ?_ | refine thenA_normal ?_)
              simp (maxSteps := 4000000) only [go_sem, ← hall]
            · have hc' : ¬ u > getI D x.to := by simpa using hc
              rw [if_neg hc'] at hall
              repeat (first | refine walkL_seq ?_ | refine walkL_skip ?_ | refine walkL_block ?_ | (refine walkL_region fun K hK => ?_; simp (maxSteps := 4000000) only [go_sem, hw]; refine hK _ ?_; clear hK K) | refine walkL_nil ?_ | refine walkL_ret ?_ | refine walkL_exit ?_ | refine blockA_here ?_ | refine blockA_other rfl ?_ | refine blockA_ret ?_ | refine blockA_normal ?_ | refine thenA_ret ?_ | refine thenA_exit ?_ | refine thenA_normal ?_)
              refine ⟨rfl, (i + 1, u), ?_, ⟨hlt, hall⟩, by dsimp only; omega⟩
              refine weak_of [] ?_ ?_ rfl rfl <;> simp [lessT, lessM, lessB, AV.less]
          · have he : i = route.length := by (have : ¬ i < route.length := by simpa using hb); omega
            subst he
            rw [List.drop_length, turnF] at hall
            repeat (first | refine walkL_seq ?_ | refine walkL_skip ?_ | refine walkL_block ?_ | (refine walkL_region fun K hK => ?_; simp (maxSteps := 4000000) only [go_sem, intRows_len]; refine hK _ ?_; clear hK K) | refine walkL_nil ?_ | refine walkL_ret ?_ | refine walkL_exit ?_ | refine blockA_here ?_ | refine blockA_other rfl ?_ | refine blockA_ret ?_ | refine blockA_normal ?_ | refine thenA_ret ?_ | refine thenA_exit ?_ | refine thenA_normal ?_)
            simp (maxSteps := 4000000) only [go_sem, ← hall]
    · have hro' : isRouteB n p frm route = false := by simpa using hro
      have hf : turnL n p route frm start home deadline = (0, 12) := by simp [turnL, hop, hro']
      repeat (first | refine walkL_seq ?_ | refine walkL_skip ?_ | refine walkL_block ?_ | (refine walkL_region fun K hK => ?_; simp (maxSteps := 4000000) only [go_sem, walkCells, hop, hro']; (repeat (first | (refine ⟨_, .lent (hf := h41) (hd := rfl) (hr := rfl), ?_⟩; simp (maxSteps := 4000000) only [go_sem, walkCells, hop, hro']) | (refine ⟨_, .lent (hf := h78) (hd := rfl) (hr := rfl), ?_⟩; simp (maxSteps := 4000000) only [go_sem, walkCells, hop, hro']) | (refine ⟨_, .given (hf := h41) (hd := rfl) (ha := rfl), ?_⟩; simp (maxSteps := 4000000) only [go_sem, walkCells, hop, hro']) | (refine ⟨_, .given (hf := h78) (hd := rfl) (ha := rfl), ?_⟩; simp (maxSteps := 4000000) only [go_sem, walkCells, hop, hro']))); refine hK _ ?_; clear hK K) | refine walkL_nil ?_ | refine walkL_ret ?_ | refine walkL_exit ?_ | refine blockA_here ?_ | refine blockA_other rfl ?_ | refine blockA_ret ?_ | refine blockA_normal ?_ | refine thenA_ret ?_ | refine thenA_exit ?_ | refine thenA_normal ?_)
      refine walkL_true rfl ?_
      repeat (first | refine walkL_seq ?_ | refine walkL_skip ?_ | refine walkL_block ?_ | (refine walkL_region fun K hK => ?_; simp (maxSteps := 4000000) only [go_sem]; refine hK _ ?_; clear hK K) | refine walkL_nil ?_ | refine walkL_ret ?_ | refine walkL_exit ?_ | refine blockA_here ?_ | refine blockA_other rfl ?_ | refine blockA_ret ?_ | refine blockA_normal ?_ | refine thenA_ret ?_ | refine thenA_exit ?_ | refine thenA_normal ?_)
      refine walkL_true rfl ?_
      repeat (first | refine walkL_seq ?_ | refine walkL_skip ?_ | refine walkL_block ?_ | (refine walkL_region fun K hK => ?_; simp (maxSteps := 4000000) only [go_sem]; refine hK _ ?_; clear hK K) | refine walkL_nil ?_ | refine walkL_ret ?_ | refine walkL_exit ?_ | refine blockA_here ?_ | refine blockA_other rfl ?_ | refine blockA_ret ?_ | refine blockA_normal ?_ | refine thenA_ret ?_ | refine thenA_exit ?_ | refine thenA_normal ?_)
      simp (maxSteps := 4000000) only [go_sem, hf]
  · have hf : turnL n p route frm start home deadline = (0, openF n p [frm, home] [start, deadline]) := by simp [turnL, hop]
    have hopb : (openF n p [frm, home] [start, deadline] == 0) = false := by simp [hop]
    repeat (first | refine walkL_seq ?_ | refine walkL_skip ?_ | refine walkL_block ?_ | (refine walkL_region fun K hK => ?_; simp (maxSteps := 4000000) only [go_sem, walkCells, hopb]; (repeat (first | (refine ⟨_, .lent (hf := h41) (hd := rfl) (hr := rfl), ?_⟩; simp (maxSteps := 4000000) only [go_sem, walkCells, hopb]) | (refine ⟨_, .given (hf := h41) (hd := rfl) (ha := rfl), ?_⟩; simp (maxSteps := 4000000) only [go_sem, walkCells, hopb]))); refine hK _ ?_; clear hK K) | refine walkL_nil ?_ | refine walkL_ret ?_ | refine walkL_exit ?_ | refine blockA_here ?_ | refine blockA_other rfl ?_ | refine blockA_ret ?_ | refine blockA_normal ?_ | refine thenA_ret ?_ | refine thenA_exit ?_ | refine thenA_normal ?_)
    refine walkL_false rfl ?_
    have hopn : (openF n p [frm, home] [start, deadline] != 0) = true := by simp [hop]
    repeat (first | refine walkL_seq ?_ | refine walkL_skip ?_ | refine walkL_block ?_ | (refine walkL_region fun K hK => ?_; simp (maxSteps := 4000000) only [go_sem, hopn]; refine hK _ ?_; clear hK K) | refine walkL_nil ?_ | refine walkL_ret ?_ | refine walkL_exit ?_ | refine blockA_here ?_ | refine blockA_other rfl ?_ | refine blockA_ret ?_ | refine blockA_normal ?_ | refine thenA_ret ?_ | refine thenA_exit ?_ | refine thenA_normal ?_)
    refine walkL_true rfl ?_
    repeat (first | refine walkL_seq ?_ | refine walkL_skip ?_ | refine walkL_block ?_ | (refine walkL_region fun K hK => ?_; simp (maxSteps := 4000000) only [go_sem]; refine hK _ ?_; clear hK K) | refine walkL_nil ?_ | refine walkL_ret ?_ | refine walkL_exit ?_ | refine blockA_here ?_ | refine blockA_other rfl ?_ | refine blockA_ret ?_ | refine blockA_normal ?_ | refine thenA_ret ?_ | refine thenA_exit ?_ | refine thenA_normal ?_)
    simp (maxSteps := 4000000) only [go_sem, hf]
end Go.Ab
namespace Go.Ab
open Go.RowKit Go.Proofs

/-- The specification's step is the program's. -/
theorem step_arrive {x : Path} {p : Party} {t : Int} {high : Bool} (ht : 0 ≤ t) (h1 : okTime (spanW x p).hi) (h2 : okTime (spanW x p).lo) : stepF x p t high = arriveF x.opens t (if high then (spanW x p).hi else (spanW x p).lo) := by
  have hd : okTime (if high then (spanW x p).hi else (spanW x p).lo) := by cases high; exact h2; exact h1
  obtain ⟨d, hdd⟩ : ∃ d, d = (if high then (spanW x p).hi else (spanW x p).lo) := ⟨_, rfl⟩
  have hv : never = 1073741824 := rfl
  rw [← hdd] at hd ⊢
  unfold stepF
  rw [← hdd, arrive_eq ht hd]
  have h3 := enter_nonneg (opens := x.opens) ht
  have h4 := enter_never x.opens t
  unfold okTime at hd
  have hw : wr (enterF x.opens t + d) = enterF x.opens t + d := wr_small (by omega)
  simp only [hw]
  split
  · rw [if_pos (by omega)]; rfl
  · split
    · rfl
    · rfl

/-- Where the party is on a route, and when: one path further. -/
def goOn (n : Net) (p : Party) (s : Int × Int) (v : Int) : Int × Int := ((pathAt n v).to, arriveF (pathAt n v).opens s.2 (spanW (pathAt n v) p).hi)
def posR (n : Net) (p : Party) (s : Int × Int) (l : List Int) (i : Nat) : Int × Int := (l.take i).foldl (goOn n p) s

theorem posR_succ {n : Net} {p : Party} {s : Int × Int} {l : List Int} {i : Nat} {v : Int} (h : l[i]? = some v) : posR n p s l (i + 1) = goOn n p (posR n p s l i) v := by
  unfold posR
  rw [List.take_add_one, h, List.foldl_append]; rfl

theorem turn_spec (n : Net) (p : Party) (by1 : List Int) : ∀ (l : List Int) (s : Int × Int) (k : Nat), ∃ m : Nat, m ≤ l.length ∧ turnF n p by1 l s.2 k = k + m ∧
    (∀ i, 0 < i → i ≤ m → (posR n p s l i).2 ≤ getI by1 (posR n p s l i).1) ∧ (m < l.length → (posR n p s l (m + 1)).2 > getI by1 (posR n p s l (m + 1)).1)
  | [], s, k => ⟨0, by simp, by simp [turnF], fun i h1 h2 => by omega, fun h => by simp at h⟩
  | v :: r, s, k => by
    unfold turnF
    by_cases hc : arriveF (pathAt n v).opens s.2 (spanW (pathAt n v) p).hi > getI by1 (pathAt n v).to
    · rw [if_pos hc]
      exact ⟨0, by simp, by simp, fun i h1 h2 => by omega, fun _ => hc⟩
    · rw [if_neg hc]
      obtain ⟨m, h1, h2, h3, h4⟩ := turn_spec n p by1 r (goOn n p s v) (k + 1)
      refine ⟨m + 1, by simp; omega, ?_, fun i hi him => ?_, fun h => h4 (by simpa using h)⟩
      · have : (goOn n p s v).2 = arriveF (pathAt n v).opens s.2 (spanW (pathAt n v) p).hi := rfl
        rw [← this, h2]; omega
      · obtain ⟨i, rfl⟩ : ∃ j, i = j + 1 := ⟨i - 1, by omega⟩
        rcases Nat.eq_zero_or_pos i with rfl | hi0
        · exact Int.not_lt.1 hc
        · exact h3 i hi0 (by omega)
end Go.Ab
namespace Go.Ab
open Go.RowKit Go.Proofs
set_option maxHeartbeats 4000000
set_option maxRecDepth 20000
attribute [local irreducible] WalkL Walk

theorem pathAt_mem {n : Net} {v : Int} (h : onNet n v) : n.paths[v.toNat]? = some (pathAt n v) ∧ pathAt n v ∈ n.paths := by
  obtain ⟨h0, h1⟩ := h
  have hx : n.paths[v.toNat]? = some (n.paths[v.toNat]'(by omega)) := List.getElem?_eq_getElem _
  have : pathAt n v = n.paths[v.toNat]'(by omega) := by simp [pathAt, List.getD, hx]
  rw [this]
  exact ⟨hx, List.getElem_mem _⟩

/-- Along a route places are places, and minutes are minutes or never. -/
theorem posR_range {n : Net} {p : Party} (hn : n.Good) (hp : p.Good) {l : List Int} (hl : ∀ v ∈ l, onNet n v) {s : Int × Int} (h1 : 0 ≤ s.1 ∧ s.1 < n.places) (h2 : 0 ≤ s.2) : ∀ i, (0 ≤ (posR n p s l i).1 ∧ (posR n p s l i).1 < n.places) ∧ 0 ≤ (posR n p s l i).2
  | 0 => ⟨h1, h2⟩
  | i + 1 => by
    obtain ⟨g1, g2⟩ := posR_range hn hp hl h1 h2 i
    cases hv : l[i]? with
    | none =>
      have : posR n p s l (i + 1) = posR n p s l i := by
        unfold posR
        rw [List.take_add_one, hv]; simp
      rw [this]
      exact ⟨g1, g2⟩
    | some v =>
      rw [posR_succ hv]
      obtain ⟨e1, e2⟩ := pathAt_mem (hl v (List.mem_of_getElem? hv))
      have hg := hn.path _ e2
      refine ⟨hg.to, ?_⟩
      have hv : never = 1073741824 := rfl
      rcases arrive_range (opens := (pathAt n v).opens) g2 (span_ok hg hp).1 with h | h
      · show 0 ≤ arriveF _ _ _
        omega
      · show 0 ≤ arriveF _ _ _
        have := (span_ok hg hp).1
        unfold okTime at this
        omega

/-- Up to where the party can turn back. -/
theorem turnL_spec {n : Net} {p : Party} {route : List Int} {frm start home deadline : Int} (hop : openF n p [frm, home] [start, deadline] = 0) (hro : isRouteB n p frm route = true) :
    ∃ k : Int, turnL n p route frm start home deadline = (k, 0) ∧ -1 ≤ k ∧ k ≤ route.length ∧
      (∀ i : Nat, (i : Int) ≤ k → (posR n p (frm, start) route i).2 ≤ getI (deadlinesL n p home deadline) (posR n p (frm, start) route i).1) ∧
      (∀ i : Nat, (i : Int) = k + 1 → i ≤ route.length → (posR n p (frm, start) route i).2 > getI (deadlinesL n p home deadline) (posR n p (frm, start) route i).1) := by
  by_cases hc : start > getI (deadlinesL n p home deadline) frm
  · refine ⟨-1, by simp [turnL, hop, hro, hc], by omega, by omega, fun i hi => by omega, fun i hi _ => ?_⟩
    obtain rfl : i = 0 := by omega
    exact hc
  · obtain ⟨m, h1, h2, h3, h4⟩ := turn_spec n p (deadlinesL n p home deadline) route (frm, start) 0
    refine ⟨m, ?_, by omega, by omega, fun i hi => ?_, fun i hi hl => ?_⟩
    · simp only [turnL, hop, hro, hc, if_true, if_false]
      rw [h2]; simp
    · rcases Nat.eq_zero_or_pos i with rfl | hi0
      · exact Int.not_lt.1 hc
      · exact h3 i hi0 (by omega)
    · obtain rfl : i = m + 1 := by omega
      exact h4 (by omega)
end Go.Ab
namespace Go.Ab
open Go.RowKit Go.Proofs
set_option maxHeartbeats 4000000
set_option maxRecDepth 20000
attribute [local irreducible] WalkL Walk

theorem f10 (n : Net) (p : Party) (x : Trip) (hs : n.Small) (hr : x.route.length < 2 ^ 30) : Fn Try.prog 10 [.agg n.cells, .agg p.cells, .agg x.row] (.bool true) := by
  have h20 := f20 n p x hs
  have h22 := f22 n p x.route x.frm hs.paths hr
  have hrl := intRows_len x.route
  refine fn_walk 150 Try.call10 Try.func10 rfl (by decide) fun J => ?_
  simp (maxSteps := 4000000) only [go_sem, St.start, Try.ntmps10, Try.results10, Net.cells, Party.cells, Trip.row]
  by_cases hfit : fitsB n p x = true
  · by_cases hro : isRouteB n p x.frm x.route = true
    · have hf := fits_of hfit
      have hpl := hf.net.places
      have ho1 : openF n p [x.frm, x.to] [x.start, x.deadline] = 0 := open_iff.2 ⟨hf.net, hf.party, by simpa using ⟨hf.frm, hf.to⟩, by simpa using ⟨hf.start, hf.deadline⟩⟩
      have h34 := f34 n p x.route x.frm x.start x.to x.deadline hs hr
      obtain ⟨k, hk0, hk1, hk2, hk3, hk4⟩ := turnL_spec ho1 hro
      rw [hk0] at h34
      have hlen : (x.route.length : Int) ≤ 30 := by
        unfold isRouteB at hro
        simpa using (Bool.and_eq_true_iff.1 hro).2
      have hon := isRoute_on hro
      have hrange := posR_range hf.net hf.party hon (s := (x.frm, x.start)) hf.frm hf.start.1
      obtain ⟨pos, hpos⟩ : ∃ pos, pos = posR n p (x.frm, x.start) x.route := ⟨_, rfl⟩
      have hposs : ∀ (i : Nat) v, x.route[i]? = some v → pos (i + 1) = goOn n p (pos i) v := fun i v h => hpos ▸ posR_succ h
      have hpos0 : pos 0 = (x.frm, x.start) := by rw [hpos]; rfl
      rw [← hpos] at hk3 hk4 hrange
      obtain ⟨by1, hby⟩ : ∃ by1, by1 = deadlinesL n p x.to x.deadline := ⟨_, rfl⟩
      rw [← hby] at hk3 hk4
      have hd := (dead_spec hf.net hf.party hf.to hf.deadline).1
      rw [← hby] at hd
      have hn1 : decide (k < -1) = false := by simp; omega
      have hn2 : decide (k > (x.route.length : Int)) = false := by simp; omega
      repeat (first | refine walkL_seq ?_ | refine walkL_skip ?_ | refine walkL_block ?_ | (refine walkL_region fun K hK => ?_; simp (maxSteps := 4000000) only [go_sem, hfit, hro]; (repeat (first | (refine ⟨_, .lent (hf := h20) (hd := rfl) (hr := rfl), ?_⟩; simp (maxSteps := 4000000) only [go_sem, hfit, hro]) | (refine ⟨_, .lent (hf := h22) (hd := rfl) (hr := rfl), ?_⟩; simp (maxSteps := 4000000) only [go_sem, hfit, hro]) | (refine ⟨_, .given (hf := h20) (hd := rfl) (ha := rfl), ?_⟩; simp (maxSteps := 4000000) only [go_sem, hfit, hro]) | (refine ⟨_, .given (hf := h22) (hd := rfl) (ha := rfl), ?_⟩; simp (maxSteps := 4000000) only [go_sem, hfit, hro]))); refine hK _ ?_; clear hK K) | refine walkL_nil ?_ | refine walkL_ret ?_ | refine walkL_exit ?_ | refine blockA_here ?_ | refine blockA_other rfl ?_ | refine blockA_ret ?_ | refine blockA_normal ?_ | refine thenA_ret ?_ | refine thenA_exit ?_ | refine thenA_normal ?_)
      refine walkL_false rfl ?_
      repeat (first | refine walkL_seq ?_ | refine walkL_skip ?_ | refine walkL_block ?_ | (refine walkL_region fun K hK => ?_; simp (maxSteps := 4000000) only [go_sem, hn1, hn2, hrl]; (repeat (first | (refine ⟨_, .lent (hf := h34) (hd := rfl) (hr := rfl), ?_⟩; simp (maxSteps := 4000000) only [go_sem, hn1, hn2, hrl]) | (refine ⟨_, .given (hf := h34) (hd := rfl) (ha := rfl), ?_⟩; simp (maxSteps := 4000000) only [go_sem, hn1, hn2, hrl]))); refine hK _ ?_; clear hK K) | refine walkL_nil ?_ | refine walkL_ret ?_ | refine walkL_exit ?_ | refine blockA_here ?_ | refine blockA_other rfl ?_ | refine blockA_ret ?_ | refine blockA_normal ?_ | refine thenA_ret ?_ | refine thenA_exit ?_ | refine thenA_normal ?_)
      refine walkL_false rfl ?_
      repeat (first | refine walkL_seq ?_ | refine walkL_skip ?_ | refine walkL_block ?_ | (refine walkL_region fun K hK => ?_; simp (maxSteps := 4000000) only [go_sem]; refine hK _ ?_; clear hK K) | refine walkL_nil ?_ | refine walkL_ret ?_ | refine walkL_exit ?_ | refine blockA_here ?_ | refine blockA_other rfl ?_ | refine blockA_ret ?_ | refine blockA_normal ?_ | refine thenA_ret ?_ | refine thenA_exit ?_ | refine thenA_normal ?_)
      refine walkL_drawn (by kernel_rfl) (by kernel_rfl) fun K hK => ?_
      simp (maxSteps := 4000000) only [go_sem]
      refine ⟨by kernel_rfl, hK _ ?_⟩
      clear hK K
      repeat (first | refine walkL_seq ?_ | refine walkL_skip ?_ | refine walkL_block ?_ | (refine walkL_region fun K hK => ?_; simp (maxSteps := 4000000) only [go_sem]; refine hK _ ?_; clear hK K) | refine walkL_nil ?_ | refine walkL_ret ?_ | refine walkL_exit ?_ | refine blockA_here ?_ | refine blockA_other rfl ?_ | refine blockA_ret ?_ | refine blockA_normal ?_ | refine thenA_ret ?_ | refine thenA_exit ?_ | refine thenA_normal ?_)
      refine walkL_loopS (fun (i : Nat) => [(11, .d (.i i)), (9, .d (.i (pos (i - 1)).1)), (10, .d (.i (pos (i - 1)).2)), (12, .undef), (13, .undef), (14, .undef), (15, .undef)]) (fun _ => []) (fun i => i ≤ x.route.length + 1 ∧ (i : Int) ≤ k + 2) (fun i => x.route.length + 1 - i) 0 ?_ ⟨Nat.zero_le _, by omega⟩ ?_
      · simp (maxSteps := 4000000) only [go_sem, hpos0]
        refine weak_of [] ?_ ?_ rfl rfl <;> simp [lessT, lessM, lessB, AV.less]
      · intro i ⟨hi, hik⟩
        simp (maxSteps := 4000000) only [go_sem]
        have hwk : IntKind.i64.wrap (k + 1) = k + 1 := wr_small (by omega)
        have hw : IntKind.i64.wrap ((i : Int) + 1) = ((i + 1 : Nat) : Int) := by rw [wr_small (by omega)]; simp
        by_cases hA : (i : Int) ≤ x.route.length ∧ (i : Int) ≤ k + 1
        · have hA1 : decide ((i : Int) ≤ (x.route.length : Int)) = true := by simpa using hA.1
          have hA2 : decide ((i : Int) ≤ k + 1) = true := by simpa using hA.2
          repeat (first | refine walkL_seq ?_ | refine walkL_skip ?_ | refine walkL_block ?_ | (refine walkL_region fun K hK => ?_; simp (maxSteps := 4000000) only [go_sem, hrl, hA1, hwk, hA2]; refine hK _ ?_; clear hK K) | refine walkL_nil ?_ | refine walkL_ret ?_ | refine walkL_exit ?_ | refine blockA_here ?_ | refine blockA_other rfl ?_ | refine blockA_ret ?_ | refine blockA_normal ?_ | refine thenA_ret ?_ | refine thenA_exit ?_ | refine thenA_normal ?_)
          refine walkL_true rfl ?_
          repeat (first | refine walkL_seq ?_ | refine walkL_skip ?_ | refine walkL_block ?_ | (refine walkL_region fun K hK => ?_; simp (maxSteps := 4000000) only [go_sem]; refine hK _ ?_; clear hK K) | refine walkL_nil ?_ | refine walkL_ret ?_ | refine walkL_exit ?_ | refine blockA_here ?_ | refine blockA_other rfl ?_ | refine blockA_ret ?_ | refine blockA_normal ?_ | refine thenA_ret ?_ | refine thenA_exit ?_ | refine thenA_normal ?_)
          obtain ⟨pl, hpl0⟩ : ∃ pl, pl = (pos i).1 := ⟨_, rfl⟩
          obtain ⟨at1, hat⟩ : ∃ at1, at1 = (pos i).2 := ⟨_, rfl⟩
          refine walkL_meetS [(9, .d (.i pl)), (10, .d (.i at1))] [] ?_ ?_
          · cases i with
            | zero =>
              refine walkL_cond rfl (fun hc => ?_) (fun hc => ?_)
              · simp at hc
              · repeat (first | refine walkL_seq ?_ | refine walkL_skip ?_ | refine walkL_block ?_ | (refine walkL_region fun K hK => ?_; simp (maxSteps := 4000000) only [go_sem]; refine hK _ ?_; clear hK K) | refine walkL_nil ?_ | refine walkL_ret ?_ | refine walkL_exit ?_ | refine blockA_here ?_ | refine blockA_other rfl ?_ | refine blockA_ret ?_ | refine blockA_normal ?_ | refine thenA_ret ?_ | refine thenA_exit ?_ | refine thenA_normal ?_)
                refine ⟨rfl, ?_⟩
                rw [hpl0, hat]
                simp (maxSteps := 4000000) only [go_sem]
                refine weak_of [] ?_ ?_ rfl rfl <;> simp [lessT, lessM, lessB, AV.less]
            | succ j =>
              refine walkL_cond rfl (fun hc => ?_) (fun hc => ?_)
              · obtain ⟨v, hv⟩ : ∃ v, x.route[j]? = some v := ⟨_, List.getElem?_eq_getElem (by omega)⟩
                have g1 := intRows_at hv
                have hvo := hon v (List.mem_of_getElem? hv)
                obtain ⟨hx, hxm⟩ := pathAt_mem hvo
                obtain ⟨v, rfl⟩ : ∃ j : Nat, v = (j : Int) := ⟨v.toNat, by have := hvo.1; omega⟩
                have hxg := hf.net.path _ hxm
                have hso := span_ok hxg hf.party
                have hps := hposs j _ hv
                have hst : stepF (pathAt n v) p (pos j).2 true = at1 := by
                  rw [step_arrive (hrange j).2 hso.1 hso.2.1, hat, hps]; rfl
                have hpv : (pathAt n v).to = pl := by rw [hpl0, hps]; rfl
                rw [Int.toNat_natCast] at hx
                have h35 := f35 n p v (pathAt n v) (pos j).2 true hx (by have := hs.opens _ hxm; omega)
                rw [hst, Net.cells] at h35
                obtain ⟨y, hy⟩ : ∃ y, y = pathAt n v := ⟨_, rfl⟩
                rw [← hy] at hx hpv
                have hj1 : IntKind.i64.wrap (((j + 1 : Nat) : Int) - 1) = j := by rw [wr_small (by omega)]; omega
                have hj2 : j + 1 - 1 = j := rfl
                rw [hj2]
                repeat (first | refine walkL_seq ?_ | refine walkL_skip ?_ | refine walkL_block ?_ | (refine walkL_region fun K hK => ?_; simp (maxSteps := 4000000) only [go_sem]; refine hK _ ?_; clear hK K) | refine walkL_nil ?_ | refine walkL_ret ?_ | refine walkL_exit ?_ | refine blockA_here ?_ | refine blockA_other rfl ?_ | refine blockA_ret ?_ | refine blockA_normal ?_ | refine thenA_ret ?_ | refine thenA_exit ?_ | refine thenA_normal ?_)
                refine walkL_drawn (by kernel_rfl) (by kernel_rfl) fun K hK => ?_
                simp (maxSteps := 4000000) only [go_sem, g1, hj1]
                refine ⟨_, .fn (hf := h35) (hd := rfl) (hr := .inl rfl), ?_⟩
                simp (maxSteps := 4000000) only [go_sem]
                refine ⟨by kernel_rfl, hK _ ?_⟩
                clear hK K
                repeat (first | refine walkL_seq ?_ | refine walkL_skip ?_ | refine walkL_block ?_ | (refine walkL_region fun K hK => ?_; simp (maxSteps := 4000000) only [go_sem]; refine hK _ ?_; clear hK K) | refine walkL_nil ?_ | refine walkL_ret ?_ | refine walkL_exit ?_ | refine blockA_here ?_ | refine blockA_other rfl ?_ | refine blockA_ret ?_ | refine blockA_normal ?_ | refine thenA_ret ?_ | refine thenA_exit ?_ | refine thenA_normal ?_)
                refine walkL_drawn (by kernel_rfl) (by kernel_rfl) fun K hK => ?_
                simp (maxSteps := 4000000) only [go_sem, g1, hj1, hx, List.getElem?_map, Path.row]
                refine ⟨by kernel_rfl, hK _ ?_⟩
                clear hK K
                repeat (first | refine walkL_seq ?_ | refine walkL_skip ?_ | refine walkL_block ?_ | (refine walkL_region fun K hK => ?_; simp (maxSteps := 4000000) only [go_sem]; refine hK _ ?_; clear hK K) | refine walkL_nil ?_ | refine walkL_ret ?_ | refine walkL_exit ?_ | refine blockA_here ?_ | refine blockA_other rfl ?_ | refine blockA_ret ?_ | refine blockA_normal ?_ | refine thenA_ret ?_ | refine thenA_exit ?_ | refine thenA_normal ?_)
                refine ⟨rfl, ?_⟩
                rw [← hpv]
                simp (maxSteps := 4000000) only [go_sem]
                refine weak_of [] ?_ ?_ rfl rfl <;> simp [lessT, lessM, lessB, AV.less]
              · exact absurd hc (by simp)
          · have hri := hrange i
            have hki := hk3 i
            have hki' := hk4 i
            rw [← hpl0, ← hat] at hri hki hki'
            have hdi := hd pl hri.1.1 hri.1.2
            simp (maxSteps := 4000000) only [go_sem]
            repeat (first | refine walkL_seq ?_ | refine walkL_skip ?_ | refine walkL_block ?_ | (refine walkL_region fun K hK => ?_; simp (maxSteps := 4000000) only [go_sem]; refine hK _ ?_; clear hK K) | refine walkL_nil ?_ | refine walkL_ret ?_ | refine walkL_exit ?_ | refine blockA_here ?_ | refine blockA_other rfl ?_ | refine blockA_ret ?_ | refine blockA_normal ?_ | refine thenA_ret ?_ | refine thenA_exit ?_ | refine thenA_normal ?_)
            refine walkL_cond rfl (fun hc => ?_) (fun hc => ?_)
            · have hc' : at1 > 2880 := by simpa using hc
              have hik1 : (i : Int) = k + 1 := by
                by_cases h : (i : Int) ≤ k
                · have := hki h; omega
                · omega
              have hke : ((i : Int) == k + 1) = true := by simp [hik1]
              repeat (first | refine walkL_seq ?_ | refine walkL_skip ?_ | refine walkL_block ?_ | (refine walkL_region fun K hK => ?_; simp (maxSteps := 4000000) only [go_sem, hwk, hke]; (repeat (first | (refine ⟨_, .lent (hf := f13) (hd := rfl) (hr := rfl), ?_⟩; simp (maxSteps := 4000000) only [go_sem, hwk, hke]) | (refine ⟨_, .given (hf := f13) (hd := rfl) (ha := rfl), ?_⟩; simp (maxSteps := 4000000) only [go_sem, hwk, hke]))); refine hK _ ?_; clear hK K) | refine walkL_nil ?_ | refine walkL_ret ?_ | refine walkL_exit ?_ | refine blockA_here ?_ | refine blockA_other rfl ?_ | refine blockA_ret ?_ | refine blockA_normal ?_ | refine thenA_ret ?_ | refine thenA_exit ?_ | refine thenA_normal ?_)
              simp (maxSteps := 4000000) only [go_sem]
            · have hc' : at1 ≤ 2880 := by simpa using hc
              have ho2 : openF n p [pl] [at1] = 0 := open_iff.2 ⟨hf.net, hf.party, by simpa using hri.1, by simpa using ⟨hri.2, hc'⟩⟩
              have h21 := f21 n p pl at1 hs
              have e21 : arriveL n p pl at1 = ((arrivalsL n p spanHi pl at1 (-1)).map told1, (arrivalsL n p spanLo pl at1 (-1)).map told1, 0) := by rw [arriveL, if_pos ho2]
              rw [e21] at h21
              have hcomes := (told_iff hf.net hf.party hri.1 hf.to ⟨hri.2, hc'⟩ hf.deadline).trans (comes_iff hf.net hf.party hri.1 hf.to ⟨hri.2, hc'⟩ hf.deadline)
              rw [← hby] at hcomes
              obtain ⟨arr, harr⟩ : ∃ arr, arr = arrivalsL n p spanHi pl at1 (-1) := ⟨_, rfl⟩
              have hal : arr.length = n.places.toNat := by rw [harr, arrivals_len]
              rw [← harr] at h21 hcomes
              have hto := hf.to
              have g1 : (intRows (arr.map told1))[x.to.toNat]? = some [.i (told1 (getI arr x.to))] := by
                rw [intRows_get hto.1 (by simp; omega), map_getI _ _ _ (by omega)]
              have hlen' : ((arr.length : Int) != n.places) = false := by simp; omega
              obtain ⟨av, hav⟩ : ∃ av, av = told1 (getI arr x.to) := ⟨_, rfl⟩
              rw [← hav] at g1 hcomes
              have hcb : (decide (av ≥ 0) && decide (av ≤ x.deadline)) = decide ((i : Int) ≤ k) := by
                by_cases h : (i : Int) ≤ k
                · have := hcomes.2 (hki h); simp [h, this]
                · have h' : ¬ (0 ≤ av ∧ av ≤ x.deadline) := fun h1 => by
                    have h2 := hcomes.1 h1
                    have h3 := hki' (by omega) (by omega)
                    omega
                  simp only [h, decide_false]
                  by_cases h1 : av ≥ 0
                  · have : ¬ av ≤ x.deadline := fun h2 => h' ⟨h1, h2⟩
                    simp [this]
                  · simp [h1]
              have hn3 : ((decide ((i : Int) ≤ k)) != (decide ((i : Int) ≤ k))) = false := by simp
              repeat (first | refine walkL_seq ?_ | refine walkL_skip ?_ | refine walkL_block ?_ | (refine walkL_region fun K hK => ?_; simp (maxSteps := 4000000) only [go_sem, intRows_len, hlen']; (repeat (first | (refine ⟨_, .lent (hf := h21) (hd := rfl) (hr := rfl), ?_⟩; simp (maxSteps := 4000000) only [go_sem, intRows_len, hlen']) | (refine ⟨_, .given (hf := h21) (hd := rfl) (ha := rfl), ?_⟩; simp (maxSteps := 4000000) only [go_sem, intRows_len, hlen']))); refine hK _ ?_; clear hK K) | refine walkL_nil ?_ | refine walkL_ret ?_ | refine walkL_exit ?_ | refine blockA_here ?_ | refine blockA_other rfl ?_ | refine blockA_ret ?_ | refine blockA_normal ?_ | refine thenA_ret ?_ | refine thenA_exit ?_ | refine thenA_normal ?_)
              refine walkL_false rfl ?_
              repeat (first | refine walkL_seq ?_ | refine walkL_skip ?_ | refine walkL_nil ?_ | refine walkL_ret ?_ | refine walkL_exit ?_ | refine blockA_here ?_ | refine blockA_other rfl ?_ | refine blockA_ret ?_ | refine blockA_normal ?_ | refine thenA_ret ?_ | refine thenA_exit ?_ | refine thenA_normal ?_)
              refine walkL_meetS [(15, .d (.bool (decide ((i : Int) ≤ k))))] [] ?_ ?_
              · refine walkL_drawn (by kernel_rfl) (by kernel_rfl) fun K hK => ?_
                simp (maxSteps := 4000000) only [go_sem, g1, hto.1]
                by_cases ho0 : (decide (av ≥ 0)) = true
                · simp (maxSteps := 4000000) only [go_sem, g1, hto.1, ho0]
                  refine ⟨by kernel_rfl, hK _ ?_⟩
                  clear hK K
                  refine walkL_nil ?_
                  refine thenA_normal ?_
                  refine ⟨rfl, ?_⟩
                  rw [show (decide ((i : Int) ≤ k)) = (decide (av ≤ x.deadline)) from by simp [← hcb, ho0]]
                  simp (maxSteps := 4000000) only [go_sem]
                  refine weak_of [] ?_ ?_ rfl rfl <;> simp [lessT, lessM, lessB, AV.less]
                · simp (maxSteps := 4000000) only [go_sem, g1, hto.1, ho0]
                  refine ⟨by kernel_rfl, hK _ ?_⟩
                  clear hK K
                  refine walkL_nil ?_
                  refine thenA_normal ?_
                  refine ⟨rfl, ?_⟩
                  rw [show (decide ((i : Int) ≤ k)) = (false) from by simp [← hcb, ho0]]
                  simp (maxSteps := 4000000) only [go_sem]
                  refine weak_of [] ?_ ?_ rfl rfl <;> simp [lessT, lessM, lessB, AV.less]
              simp (maxSteps := 4000000) only [go_sem]
              repeat (first | refine walkL_seq ?_ | refine walkL_skip ?_ | refine walkL_block ?_ | (refine walkL_region fun K hK => ?_; simp (maxSteps := 4000000) only [go_sem, hn3]; refine hK _ ?_; clear hK K) | refine walkL_nil ?_ | refine walkL_ret ?_ | refine walkL_exit ?_ | refine blockA_here ?_ | refine blockA_other rfl ?_ | refine blockA_ret ?_ | refine blockA_normal ?_ | refine thenA_ret ?_ | refine thenA_exit ?_ | refine thenA_normal ?_)
              refine walkL_false rfl ?_
              repeat (first | refine walkL_seq ?_ | refine walkL_skip ?_ | refine walkL_block ?_ | (refine walkL_region fun K hK => ?_; simp (maxSteps := 4000000) only [go_sem, hw]; refine hK _ ?_; clear hK K) | refine walkL_nil ?_ | refine walkL_ret ?_ | refine walkL_exit ?_ | refine blockA_here ?_ | refine blockA_other rfl ?_ | refine blockA_ret ?_ | refine blockA_normal ?_ | refine thenA_ret ?_ | refine thenA_exit ?_ | refine thenA_normal ?_)
              refine ⟨rfl, i + 1, ?_, ⟨by omega, by omega⟩, by omega⟩
              rw [hpl0, hat]
              refine weak_of [] ?_ ?_ rfl rfl <;> simp [lessT, lessM, lessB, AV.less]
        · have hA' : decide ((i : Int) ≤ (x.route.length : Int)) = false ∨ (decide ((i : Int) ≤ (x.route.length : Int)) = true ∧ decide ((i : Int) ≤ k + 1) = false) := by
            by_cases h1 : (i : Int) ≤ x.route.length
            · right; exact ⟨by simpa using h1, by simp; omega⟩
            · left; simpa using h1
          rcases hA' with hA1 | ⟨hA1, hA2⟩
          · repeat (first | refine walkL_seq ?_ | refine walkL_skip ?_ | refine walkL_block ?_ | (refine walkL_region fun K hK => ?_; simp (maxSteps := 4000000) only [go_sem, hrl, hA1]; refine hK _ ?_; clear hK K) | refine walkL_nil ?_ | refine walkL_ret ?_ | refine walkL_exit ?_ | refine blockA_here ?_ | refine blockA_other rfl ?_ | refine blockA_ret ?_ | refine blockA_normal ?_ | refine thenA_ret ?_ | refine thenA_exit ?_ | refine thenA_normal ?_)
            refine walkL_false rfl ?_
            repeat (first | refine walkL_seq ?_ | refine walkL_skip ?_ | refine walkL_block ?_ | (refine walkL_region fun K hK => ?_; simp (maxSteps := 4000000) only [go_sem]; (repeat (first | (refine ⟨_, .lent (hf := f13) (hd := rfl) (hr := rfl), ?_⟩; simp (maxSteps := 4000000) only [go_sem]) | (refine ⟨_, .given (hf := f13) (hd := rfl) (ha := rfl), ?_⟩; simp (maxSteps := 4000000) only [go_sem]))); refine hK _ ?_; clear hK K) | refine walkL_nil ?_ | refine walkL_ret ?_ | refine walkL_exit ?_ | refine blockA_here ?_ | refine blockA_other rfl ?_ | refine blockA_ret ?_ | refine blockA_normal ?_ | refine thenA_ret ?_ | refine thenA_exit ?_ | refine thenA_normal ?_)
            simp (maxSteps := 4000000) only [go_sem]
          · repeat (first | refine walkL_seq ?_ | refine walkL_skip ?_ | refine walkL_block ?_ | (refine walkL_region fun K hK => ?_; simp (maxSteps := 4000000) only [go_sem, hrl, hA1, hwk, hA2]; refine hK _ ?_; clear hK K) | refine walkL_nil ?_ | refine walkL_ret ?_ | refine walkL_exit ?_ | refine blockA_here ?_ | refine blockA_other rfl ?_ | refine blockA_ret ?_ | refine blockA_normal ?_ | refine thenA_ret ?_ | refine thenA_exit ?_ | refine thenA_normal ?_)
            refine walkL_false rfl ?_
            repeat (first | refine walkL_seq ?_ | refine walkL_skip ?_ | refine walkL_block ?_ | (refine walkL_region fun K hK => ?_; simp (maxSteps := 4000000) only [go_sem]; (repeat (first | (refine ⟨_, .lent (hf := f13) (hd := rfl) (hr := rfl), ?_⟩; simp (maxSteps := 4000000) only [go_sem]) | (refine ⟨_, .given (hf := f13) (hd := rfl) (ha := rfl), ?_⟩; simp (maxSteps := 4000000) only [go_sem]))); refine hK _ ?_; clear hK K) | refine walkL_nil ?_ | refine walkL_ret ?_ | refine walkL_exit ?_ | refine blockA_here ?_ | refine blockA_other rfl ?_ | refine blockA_ret ?_ | refine blockA_normal ?_ | refine thenA_ret ?_ | refine thenA_exit ?_ | refine thenA_normal ?_)
            simp (maxSteps := 4000000) only [go_sem]
    · have hro' : isRouteB n p x.frm x.route = false := by simpa using hro
      repeat (first | refine walkL_seq ?_ | refine walkL_skip ?_ | refine walkL_block ?_ | (refine walkL_region fun K hK => ?_; simp (maxSteps := 4000000) only [go_sem, hfit, hro']; (repeat (first | (refine ⟨_, .lent (hf := h20) (hd := rfl) (hr := rfl), ?_⟩; simp (maxSteps := 4000000) only [go_sem, hfit, hro']) | (refine ⟨_, .lent (hf := h22) (hd := rfl) (hr := rfl), ?_⟩; simp (maxSteps := 4000000) only [go_sem, hfit, hro']) | (refine ⟨_, .given (hf := h20) (hd := rfl) (ha := rfl), ?_⟩; simp (maxSteps := 4000000) only [go_sem, hfit, hro']) | (refine ⟨_, .given (hf := h22) (hd := rfl) (ha := rfl), ?_⟩; simp (maxSteps := 4000000) only [go_sem, hfit, hro']))); refine hK _ ?_; clear hK K) | refine walkL_nil ?_ | refine walkL_ret ?_ | refine walkL_exit ?_ | refine blockA_here ?_ | refine blockA_other rfl ?_ | refine blockA_ret ?_ | refine blockA_normal ?_ | refine thenA_ret ?_ | refine thenA_exit ?_ | refine thenA_normal ?_)
      refine walkL_true rfl ?_
      repeat (first | refine walkL_seq ?_ | refine walkL_skip ?_ | refine walkL_block ?_ | (refine walkL_region fun K hK => ?_; simp (maxSteps := 4000000) only [go_sem]; (repeat (first | (refine ⟨_, .lent (hf := f13) (hd := rfl) (hr := rfl), ?_⟩; simp (maxSteps := 4000000) only [go_sem]) | (refine ⟨_, .given (hf := f13) (hd := rfl) (ha := rfl), ?_⟩; simp (maxSteps := 4000000) only [go_sem]))); refine hK _ ?_; clear hK K) | refine walkL_nil ?_ | refine walkL_ret ?_ | refine walkL_exit ?_ | refine blockA_here ?_ | refine blockA_other rfl ?_ | refine blockA_ret ?_ | refine blockA_normal ?_ | refine thenA_ret ?_ | refine thenA_exit ?_ | refine thenA_normal ?_)
      simp (maxSteps := 4000000) only [go_sem]
  · have hfit' : fitsB n p x = false := by simpa using hfit
    repeat (first | refine walkL_seq ?_ | refine walkL_skip ?_ | refine walkL_block ?_ | (refine walkL_region fun K hK => ?_; simp (maxSteps := 4000000) only [go_sem, hfit']; (repeat (first | (refine ⟨_, .lent (hf := h20) (hd := rfl) (hr := rfl), ?_⟩; simp (maxSteps := 4000000) only [go_sem, hfit']) | (refine ⟨_, .given (hf := h20) (hd := rfl) (ha := rfl), ?_⟩; simp (maxSteps := 4000000) only [go_sem, hfit']))); refine hK _ ?_; clear hK K) | refine walkL_nil ?_ | refine walkL_ret ?_ | refine walkL_exit ?_ | refine blockA_here ?_ | refine blockA_other rfl ?_ | refine blockA_ret ?_ | refine blockA_normal ?_ | refine thenA_ret ?_ | refine thenA_exit ?_ | refine thenA_normal ?_)
    refine walkL_true rfl ?_
    repeat (first | refine walkL_seq ?_ | refine walkL_skip ?_ | refine walkL_block ?_ | (refine walkL_region fun K hK => ?_; simp (maxSteps := 4000000) only [go_sem]; (repeat (first | (refine ⟨_, .lent (hf := f13) (hd := rfl) (hr := rfl), ?_⟩; simp (maxSteps := 4000000) only [go_sem]) | (refine ⟨_, .given (hf := f13) (hd := rfl) (ha := rfl), ?_⟩; simp (maxSteps := 4000000) only [go_sem]))); refine hK _ ?_; clear hK K) | refine walkL_nil ?_ | refine walkL_ret ?_ | refine walkL_exit ?_ | refine blockA_here ?_ | refine blockA_other rfl ?_ | refine blockA_ret ?_ | refine blockA_normal ?_ | refine thenA_ret ?_ | refine thenA_exit ?_ | refine thenA_normal ?_)
    simp (maxSteps := 4000000) only [go_sem]
end Go.Ab
/- Plain law of layer 1: the document's table is the program's arrivals. -/
namespace Go.Ab
open Go.RowKit Go.Proofs
set_option maxHeartbeats 1000000

theorem waysFrom_in (p : Party) (but : Int) : ∀ (l : List Path) (i j : Nat) (x : Path), l[j]? = some x → ((i + j : Nat) : Int) ≠ but → x.grade ≤ p.grade → (i + j, x) ∈ waysFrom p but l i
  | [], i, j, x, h, _, _ => by simp at h
  | y :: l, i, 0, x, h, h1, h2 => by
    simp at h; subst h
    unfold waysFrom
    rw [if_pos ⟨by simpa using h1, h2⟩]
    simp
  | y :: l, i, j + 1, x, h, h1, h2 => by
    have := waysFrom_in p but l (i + 1) j x (by simpa using h) (by rw [show i + 1 + j = i + (j + 1) by omega]; exact h1) h2
    rw [show i + 1 + j = i + (j + 1) by omega] at this
    unfold waysFrom
    split
    · exact List.mem_cons_of_mem _ this
    · exact this

theorem waysL_iff {n : Net} {p : Party} {but : Int} {w : Nat × Path} : w ∈ waysL n p but ↔ n.paths[w.1]? = some w.2 ∧ w.2.grade ≤ p.grade ∧ (w.1 : Int) ≠ but := by
  constructor
  · intro h
    obtain ⟨_, h2, h3, h4⟩ := waysFrom_mem p but n.paths 0 w h
    exact ⟨by simpa using h2, h3, h4⟩
  · rintro ⟨h1, h2, h3⟩
    have := waysFrom_in p but n.paths 0 w.1 w.2 h1 (by simpa using h3) h2
    simpa [waysL] using this

/-- The end of the span that is meant. -/
def endOf (high : Bool) (s : Span) : Int := if high then s.hi else s.lo

theorem ways_end {n : Net} {p : Party} (hn : n.Good) (hp : p.Good) (but : Int) (high : Bool) : OkWs n (fun x => endOf high (spanW x p)) (waysL n p but) := by
  cases high
  · exact (ways_ok hn hp but).2
  · exact (ways_ok hn hp but).1

section
variable {n : Net} {p : Party} {high : Bool} {but frm start : Int}

def TabInv (n : Net) (p : Party) (high : Bool) (but frm start : Int) (l : List Int) : Prop :=
  l.length = n.places.toNat ∧ ∀ y, 0 ≤ y → y < n.places → getI l y = never ∨ (0 ≤ getI l y ∧ getI l y ≤ 2880 ∧ Reach (waysL n p but) (fun x => endOf high (spanW x p)) frm start y (getI l y))

theorem relaxT_eq (hn : n.Good) (hp : p.Good) {l : List Int} (h : TabInv n p high but frm start l) (w : Path × Nat) (hw : n.paths[w.2]? = some w.1) :
    (relaxT p high but l w = l ∧ ((w.2, w.1) ∉ waysL n p but ∨ getI l w.1.frm = never)) ∨
    ((w.2, w.1) ∈ waysL n p but ∧ 0 ≤ getI l w.1.frm ∧ getI l w.1.frm ≤ 2880 ∧ Reach (waysL n p but) (fun x => endOf high (spanW x p)) frm start w.1.frm (getI l w.1.frm) ∧
      relaxT p high but l w = l.set w.1.to.toNat (min (getI l w.1.to) (arriveF w.1.opens (getI l w.1.frm) (endOf high (spanW w.1 p))))) := by
  have hg := hn.path w.1 (List.mem_of_getElem? hw)
  have hv : never = 1073741824 := rfl
  have hsp := span_ok hg hp
  unfold relaxT
  by_cases hb : relaxB p but l w = true
  · right
    rw [if_pos hb]
    simp only [relaxB, Bool.and_eq_true, bne_iff_ne, ne_eq, decide_eq_true_eq] at hb
    obtain ⟨b1, b2, b3⟩ := hb
    rcases h.2 w.1.frm hg.frm.1 hg.frm.2 with h1 | ⟨h1, h2, h3⟩
    · omega
    · refine ⟨waysL_iff.2 ⟨hw, b2, b1⟩, h1, h2, h3, ?_⟩
      rw [step_arrive h1 hsp.1 hsp.2.1]
      rfl
  · left
    rw [if_neg hb]
    refine ⟨rfl, ?_⟩
    by_cases hm : (w.2, w.1) ∈ waysL n p but
    · right
      obtain ⟨q1, q2, q3⟩ := waysL_iff.1 hm
      simp only [relaxB, Bool.and_eq_true, bne_iff_ne, ne_eq, decide_eq_true_eq] at hb
      rcases h.2 w.1.frm hg.frm.1 hg.frm.2 with h1 | ⟨h1, h2, h3⟩
      · exact h1
      · exact absurd ⟨q3, q2, by omega⟩ hb
    · exact .inl hm

/-- One path of a round: what was stays true, nothing rises, and the path has its say. -/
theorem relaxT_step (hn : n.Good) (hp : p.Good) {l : List Int} (h : TabInv n p high but frm start l) (w : Path × Nat) (hw : n.paths[w.2]? = some w.1) :
    TabInv n p high but frm start (relaxT p high but l w) ∧ (∀ y, 0 ≤ y → y < n.places → getI (relaxT p high but l w) y ≤ getI l y) ∧
    ((w.2, w.1) ∈ waysL n p but → getI l w.1.frm ≠ never → getI (relaxT p high but l w) w.1.to ≤ arriveF w.1.opens (getI l w.1.frm) (endOf high (spanW w.1 p))) := by
  have hg := hn.path w.1 (List.mem_of_getElem? hw)
  have hv : never = 1073741824 := rfl
  have hok := ways_end hn hp but high
  rcases relaxT_eq hn hp h w hw with ⟨e, h1⟩ | ⟨hm, h1, h2, h3, e⟩
  · rw [e]
    exact ⟨h, fun y _ _ => Int.le_refl _, fun a b => by rcases h1 with h1 | h1; exact absurd a h1; exact absurd h1 b⟩
  · obtain ⟨_, _, w3⟩ := hok _ hm
    have w3 : okTime (endOf high (spanW w.1 p)) := w3
    have hsz : w.1.to.toNat < l.length := by have := h.1; have := hg.to; omega
    rw [e]
    refine ⟨⟨by simpa using h.1, fun y hy hyn => ?_⟩, fun y hy hyn => ?_, fun _ _ => ?_⟩
    · rw [getI_set _ _ _ _ hg.to.1 hsz hy]
      split
      · rename_i e; subst e
        rcases arrive_range (opens := w.1.opens) h1 w3 with ha | ⟨ha, ha'⟩
        · have hmin : min (getI l w.1.to) (arriveF w.1.opens (getI l w.1.frm) (endOf high (spanW w.1 p))) = getI l w.1.to := by
            rcases h.2 w.1.to hg.to.1 hg.to.2 with h4 | h4 <;> omega
          rw [hmin]
          exact h.2 _ hg.to.1 hg.to.2
        · by_cases hlt : getI l w.1.to ≤ arriveF w.1.opens (getI l w.1.frm) (endOf high (spanW w.1 p))
          · rw [Int.min_eq_left hlt]; exact h.2 _ hg.to.1 hg.to.2
          · rw [Int.min_eq_right (by omega)]
            unfold okTime at w3
            exact .inr ⟨by omega, ha', .step (w.2, w.1) h3 hm rfl ha'⟩
      · exact h.2 y hy hyn
    · rw [getI_set _ _ _ _ hg.to.1 hsz hy]
      split
      · rename_i e; subst e; omega
      · exact Int.le_refl _
    · rw [getI_set _ _ _ _ hg.to.1 hsz hg.to.1, if_pos rfl]
      omega

theorem foldT_step (hn : n.Good) (hp : p.Good) : ∀ (ws : List (Path × Nat)) (l : List Int), (∀ w ∈ ws, n.paths[w.2]? = some w.1) → TabInv n p high but frm start l →
    TabInv n p high but frm start (ws.foldl (relaxT p high but) l) ∧ (∀ y, 0 ≤ y → y < n.places → getI (ws.foldl (relaxT p high but) l) y ≤ getI l y) ∧
    ∀ w ∈ ws, (w.2, w.1) ∈ waysL n p but → getI l w.1.frm ≠ never → getI (ws.foldl (relaxT p high but) l) w.1.to ≤ arriveF w.1.opens (getI l w.1.frm) (endOf high (spanW w.1 p))
  | [], l, _, h => ⟨h, fun y _ _ => Int.le_refl _, fun w hw => by cases hw⟩
  | v :: ws, l, hs, h => by
    rw [List.foldl_cons]
    have hv : never = 1073741824 := rfl
    obtain ⟨s1, s2, s3⟩ := relaxT_step hn hp h v (hs v (by simp))
    obtain ⟨i1, i2, i3⟩ := foldT_step hn hp ws _ (fun w hw => hs w (by simp [hw])) s1
    refine ⟨i1, fun y hy hyn => Int.le_trans (i2 y hy hyn) (s2 y hy hyn), fun w hw hm hne => ?_⟩
    have hg := hn.path w.1 (List.mem_of_getElem? (hs w hw))
    rcases List.mem_cons.1 hw with rfl | hw
    · exact Int.le_trans (i2 _ hg.to.1 hg.to.2) (s3 hm hne)
    · have hle := s2 w.1.frm hg.frm.1 hg.frm.2
      have hlo : 0 ≤ getI (relaxT p high but l v) w.1.frm ∧ getI (relaxT p high but l v) w.1.frm ≠ never := by
        rcases h.2 w.1.frm hg.frm.1 hg.frm.2 with h4 | ⟨h4, h5, _⟩
        · exact absurd h4 hne
        · rcases s1.2 w.1.frm hg.frm.1 hg.frm.2 with h6 | ⟨h6, h7, _⟩ <;> omega
      refine Int.le_trans (i3 w hw hm hlo.2) ?_
      exact arrive_mono hlo.1 hle ((ways_end hn hp but high) _ hm).2.2

theorem passT_step (hn : n.Good) (hp : p.Good) (l : List Int) (h : TabInv n p high but frm start l) :
    TabInv n p high but frm start (passT n p high but l) ∧ (∀ y, 0 ≤ y → y < n.places → getI (passT n p high but l) y ≤ getI l y) ∧
    ∀ w ∈ waysL n p but, getI l w.2.frm ≠ never → getI (passT n p high but l) w.2.to ≤ arriveF w.2.opens (getI l w.2.frm) (endOf high (spanW w.2 p)) := by
  have hz : ∀ w ∈ n.paths.zipIdx, n.paths[w.2]? = some w.1 := fun w hw => by simpa using List.mk_mem_zipIdx_iff_getElem?.1 hw
  obtain ⟨i1, i2, i3⟩ := foldT_step hn hp n.paths.zipIdx l hz h
  refine ⟨i1, i2, fun w hw hne => ?_⟩
  have hget := waysL_get hw
  exact i3 (w.2, w.1) (List.mk_mem_zipIdx_iff_getElem?.2 hget) hw hne

theorem arr0_inv (hf : 0 ≤ frm ∧ frm < n.places) (hs : 0 ≤ start ∧ start ≤ 2880) : TabInv n p high but frm start (arrivals0 n frm start) ∧ getI (arrivals0 n frm start) frm = start := by
  have hl : frm.toNat < (List.replicate n.places.toNat never).length := by simp; omega
  refine ⟨⟨by simp [arrivals0], fun y hy hyn => ?_⟩, ?_⟩
  · unfold arrivals0
    rw [getI_set _ _ _ _ hf.1 hl hy]
    split
    · rename_i e; subst e; exact .inr ⟨hs.1, hs.2, .refl⟩
    · left; unfold getI; rw [List.getD_eq_getElem?_getD, List.getElem?_replicate, if_pos (by omega)]; rfl
  · unfold arrivals0; rw [getI_set _ _ _ _ hf.1 hl hf.1, if_pos rfl]

/-- How many places have a lower value. -/
def lower (m : Nat) (d : Int → Int) (y : Int) : Nat := ((List.range m).filter fun (i : Nat) => decide (d i < d y)).length

theorem lower_lt {m : Nat} {d : Int → Int} {z y : Int} (h : d z < d y) (hz : 0 ≤ z ∧ z < m) : lower m d z < lower m d y := by
  unfold lower
  have hsub : (List.range m).filter (fun (i : Nat) => decide (d i < d z)) = ((List.range m).filter (fun (i : Nat) => decide (d i < d y))).filter (fun (i : Nat) => decide (d i < d z)) := by
    rw [List.filter_filter]
    refine List.filter_congr fun i _ => ?_
    by_cases h1 : d i < d z
    · simp [h1, Int.lt_trans h1 h]
    · simp [h1]
  rw [hsub]
  refine List.length_filter_lt_length_iff_exists.2 ⟨z.toNat, ?_, ?_⟩
  · simp only [List.mem_filter, List.mem_range, decide_eq_true_eq]
    refine ⟨by omega, ?_⟩
    rw [show ((z.toNat : Nat) : Int) = z by omega]; exact h
  · rw [show ((z.toNat : Nat) : Int) = z by omega]; simp

theorem lower_le {m : Nat} {d : Int → Int} {y : Int} (hy : 0 ≤ y ∧ y < m) : lower m d y < m := by
  have : lower m d y < (List.range m).length := by
    unfold lower
    refine List.length_filter_lt_length_iff_exists.2 ⟨y.toNat, by simp; omega, ?_⟩
    rw [show ((y.toNat : Nat) : Int) = y by omega]; simp
  simpa using this

/-- The document's table is the program's arrivals. -/
theorem table_get (hn : n.Good) (hp : p.Good) (hf : 0 ≤ frm ∧ frm < n.places) (hs : 0 ≤ start ∧ start ≤ 2880) (y : Int) (hy : 0 ≤ y) (hyn : y < n.places) :
    getI (tableL n p frm start high but) y = getI (arrivalsL n p (endOf high) frm start but) y := by
  have hv : never = 1073741824 := rfl
  have hok := ways_end hn hp but high
  obtain ⟨A1, A2⟩ := arr_spec (q := endOf high) hok hf hs
  obtain ⟨D, hD⟩ : ∃ D : Int → Int, D = fun z => getI (arrivalsL n p (endOf high) frm start but) z := ⟨_, rfl⟩
  have A1' : ∀ y, 0 ≤ y → y < n.places → D y = never ∨ (0 ≤ D y ∧ D y ≤ 2880 ∧ Reach (waysL n p but) (fun x => endOf high (spanW x p)) frm start y (D y)) := by rw [hD]; exact A1
  have A2' : ∀ y t, Reach (waysL n p but) (fun x => endOf high (spanW x p)) frm start y t → D y ≤ t := by rw [hD]; exact A2
  clear A1 A2
  obtain ⟨L, hL⟩ : ∃ L : Nat → List Int, L = fun k => iterL (passT n p high but) k (arrivals0 n frm start) := ⟨_, rfl⟩
  have hL0 : L 0 = arrivals0 n frm start := by rw [hL]; rfl
  have hLs : ∀ k, L (k + 1) = passT n p high but (L k) := by intro k; rw [hL]; rfl
  have hinv : ∀ k, TabInv n p high but frm start (L k) := by
    intro k
    induction k with
    | zero => rw [hL0]; exact (arr0_inv hf hs).1
    | succ k ih => rw [hLs]; exact (passT_step hn hp _ ih).1
  have hge : ∀ k y, 0 ≤ y → y < n.places → D y ≤ getI (L k) y := by
    intro k y hy hyn
    rcases (hinv k).2 y hy hyn with h | ⟨_, _, h⟩
    · rcases A1' y hy hyn with h' | h' <;> omega
    · exact A2' y _ h
  have hfr : ∀ k, getI (L k) frm = start := by
    intro k
    have hle : getI (L k) frm ≤ start := by
      induction k with
      | zero => rw [hL0, (arr0_inv (p := p) (high := high) (but := but) hf hs).2]; exact Int.le_refl _
      | succ k ih => rw [hLs]; exact Int.le_trans ((passT_step hn hp _ (hinv k)).2.1 frm hf.1 hf.2) ih
    rcases (hinv k).2 frm hf.1 hf.2 with h | ⟨h1, h2, h3⟩
    · omega
    · have := h3.range hok hs hf; omega
  have key : ∀ k y, 0 ≤ y → y < n.places → D y ≠ never → lower n.places.toNat D y ≤ k → getI (L k) y = D y := by
    intro k
    induction k with
    | zero =>
      intro y hy hyn hne hlow
      rcases A1' y hy hyn with h | ⟨h1, h2, h3⟩
      · exact absurd h hne
      obtain ⟨dy, hdy⟩ : ∃ dy, dy = D y := ⟨_, rfl⟩
      rw [← hdy] at h3 h2 h1 ⊢
      cases h3 with
      | refl => exact hfr 0
      | @step z t w hr hm hfe hle =>
        exfalso
        have hrg := hr.range hok hs hf
        obtain ⟨_, _, w3⟩ := hok w hm
        have w3 : okTime (endOf high (spanW w.2 p)) := w3
        have hlt : D z < D w.2.to := by
          have h4 := A2' z t hr
          rcases arrive_range (opens := w.2.opens) (t := t) (by omega) w3 with h | h
          · omega
          · unfold okTime at w3; omega
        have := lower_lt (m := n.places.toNat) hlt (by omega)
        omega
    | succ k ih =>
      intro y hy hyn hne hlow
      have hge' := hge (k + 1) y hy hyn
      rcases A1' y hy hyn with h | ⟨h1, h2, h3⟩
      · exact absurd h hne
      obtain ⟨dy, hdy⟩ : ∃ dy, dy = D y := ⟨_, rfl⟩
      rw [← hdy] at h3 hge' h2 h1 ⊢
      cases h3 with
      | refl => exact hfr (k + 1)
      | @step z t w hr hm hfe hle =>
        have hrg := hr.range hok hs hf
        obtain ⟨_, _, w3⟩ := hok w hm
        have w3 : okTime (endOf high (spanW w.2 p)) := w3
        have h4 := A2' z t hr
        have hlt : D z < D w.2.to := by
          rcases arrive_range (opens := w.2.opens) (t := t) (by omega) w3 with h | h
          · omega
          · unfold okTime at w3; omega
        have hlz := lower_lt (m := n.places.toNat) hlt (by omega)
        have hDz : D z ≠ never := by omega
        have hz := ih z (by omega) (by omega) hDz (by omega)
        have hz0 : 0 ≤ D z := by rcases A1' z (by omega) (by omega) with h | h <;> omega
        have hp' := (passT_step hn hp _ (hinv k)).2.2 w hm (by rw [hfe, hz]; exact hDz)
        rw [← hLs, hfe, hz] at hp'
        have := arrive_mono (opens := w.2.opens) hz0 h4 w3
        change getI (L (k + 1)) w.2.to = arriveF w.2.opens t (endOf high (spanW w.2 p))
        change arriveF w.2.opens t (endOf high (spanW w.2 p)) ≤ _ at hge'
        omega
  have hfin : getI (L n.places.toNat) y = D y := by
    by_cases hne : D y = never
    · have h1 := hge n.places.toNat y hy hyn
      rcases (hinv n.places.toNat).2 y hy hyn with h | h
      · rw [h, hne]
      · omega
    · exact key _ y hy hyn hne (Nat.le_of_lt (lower_le (by omega)))
  rw [hL, hD] at hfin
  exact hfin

theorem getI_ext {a b : List Int} {m : Nat} (ha : a.length = m) (hb : b.length = m) (h : ∀ y : Int, 0 ≤ y → y < m → getI a y = getI b y) : a = b := by
  refine List.ext_getElem (by omega) fun i h1 h2 => ?_
  have := h i (by omega) (by omega)
  unfold getI at this
  simpa [List.getD_eq_getElem?_getD, h1, h2] using this

theorem arrivalsL_len {n : Net} {p : Party} {q : Span → Int} {frm start but : Int} (hw : OkWs n (fun x => q (spanW x p)) (waysL n p but)) (hf : 0 ≤ frm ∧ frm < n.places) (hs : 0 ≤ start ∧ start ≤ 2880) : (arrivalsL n p q frm start but).length = n.places.toNat := by
  have h0 : ArrInv n (waysL n p but) (fun x => q (spanW x p)) frm start (arrivals0 n frm start) := by
    have hl : frm.toNat < (List.replicate n.places.toNat never).length := by simp; omega
    refine ⟨by simp [arrivals0], ?_, fun y hy hyn => ?_⟩
    · unfold arrivals0; rw [getI_set _ _ _ _ hf.1 hl hf.1, if_pos rfl]; exact Int.le_refl _
    · unfold arrivals0
      rw [getI_set _ _ _ _ hf.1 hl hy]
      split
      · rename_i e; subst e; exact .inr ⟨hs.1, hs.2, .refl⟩
      · left; unfold getI; rw [List.getD_eq_getElem?_getD, List.getElem?_replicate, if_pos (by omega)]; rfl
  exact (fixA_spec hw hf (fallM (arrivals0 n frm start) + 1) (arrivals0 n frm start) (Nat.lt_succ_self _) h0).1.1

theorem table_eq (hn : n.Good) (hp : p.Good) (hf : 0 ≤ frm ∧ frm < n.places) (hs : 0 ≤ start ∧ start ≤ 2880) :
    tableL n p frm start high but = arrivalsL n p (endOf high) frm start but := by
  refine getI_ext (m := n.places.toNat) ?_ (arrivalsL_len (ways_end hn hp but high) hf hs) fun y hy hyn => table_get hn hp hf hs y hy (by omega)
  unfold tableL
  rw [iterL_len _ (passT_len n p high but)]
  simp [arrivals0]
end
end Go.Ab
namespace Go.Ab
open Go.RowKit Go.Proofs
set_option maxHeartbeats 4000000
set_option maxRecDepth 20000
attribute [local irreducible] WalkL Walk

theorem spanRows_head (l : List Span) : headIs 2 (l.map Span.row) = true := by cases l <;> rfl
theorem pathRows_head (l : List Path) : headIs 8 (l.map Path.row) = true := by cases l <;> rfl

/-- Copy returns an equal net. -/
theorem f14 (n : Net) (hs : n.Small) : Fn Try.prog 14 [.agg n.cells] (.agg n.cells) := by
  have hpl := hs.paths
  refine fn_walk 33 Try.call14 Try.func14 rfl (by decide) fun J => ?_
  simp (maxSteps := 4000000) only [go_sem, St.start, Try.ntmps14, Try.results14, Net.cells]
  repeat (first | refine walkL_seq ?_ | refine walkL_skip ?_ | refine walkL_block ?_ | (refine walkL_region fun K hK => ?_; simp (maxSteps := 4000000) only [go_sem]; refine hK _ ?_; clear hK K) | refine walkL_nil ?_ | refine walkL_ret ?_ | refine walkL_exit ?_ | refine blockA_here ?_ | refine blockA_other rfl ?_ | refine blockA_ret ?_ | refine blockA_normal ?_ | refine thenA_ret ?_ | refine thenA_exit ?_ | refine thenA_normal ?_)
  refine walkL_loopS (fun (i : Nat) => [(4, .d (.i i))]) (fun i => [(3, some (.box [.d (.i n.places), .own 30])), (30, some (.arr 49 8 ((n.paths.take i).map Path.row)))]) (fun i => i ≤ n.paths.length) (fun i => n.paths.length - i) 0 ?_ (Nat.zero_le _) ?_
  · simp (maxSteps := 4000000) only [go_sem]
    refine weak_of [30] ?_ ?_ rfl rfl <;> simp [lessT, lessM, lessB, AV.less]
  · intro i hi
    simp (maxSteps := 4000000) only [go_sem]
    repeat (first | refine walkL_seq ?_ | refine walkL_skip ?_ | refine walkL_block ?_ | (refine walkL_region fun K hK => ?_; simp (maxSteps := 4000000) only [go_sem]; refine hK _ ?_; clear hK K) | refine walkL_nil ?_ | refine walkL_ret ?_ | refine walkL_exit ?_ | refine blockA_here ?_ | refine blockA_other rfl ?_ | refine blockA_ret ?_ | refine blockA_normal ?_ | refine thenA_ret ?_ | refine thenA_exit ?_ | refine thenA_normal ?_)
    refine walkL_cond rfl (fun hb => ?_) (fun hb => ?_)
    · have hlt : i < n.paths.length := by simpa using hb
      have hw : IntKind.i64.wrap ((i : Int) + 1) = ((i + 1 : Nat) : Int) := by rw [wr_small (by omega)]; simp
      obtain ⟨x, hx⟩ : ∃ x, n.paths[i]? = some x := ⟨_, List.getElem?_eq_getElem hlt⟩
      have hxo := hs.opens x (List.mem_of_getElem? hx)
      have h1 : x.opens.length ≤ 549755813888 := by omega
      have h2 : min i n.paths.length + 1 ≤ 549755813888 := by omega
      have h3 : (n.paths.take (i + 1)).map Path.row = (n.paths.take i).map Path.row ++ [x.row] := by rw [List.take_add_one, hx]; simp
      repeat (first | refine walkL_seq ?_ | refine walkL_skip ?_ | refine walkL_block ?_ | (refine walkL_region fun K hK => ?_; simp (maxSteps := 4000000) only [go_sem, hx, List.getElem?_map, Path.row, h1, h2, spanRows_head, List.length_take, hw]; refine hK _ ?_; clear hK K) | refine walkL_nil ?_ | refine walkL_ret ?_ | refine walkL_exit ?_ | refine blockA_here ?_ | refine blockA_other rfl ?_ | refine blockA_ret ?_ | refine blockA_normal ?_ | refine thenA_ret ?_ | refine thenA_exit ?_ | refine thenA_normal ?_)
      refine ⟨rfl, i + 1, ?_, hlt, by omega⟩
      rw [h3]
      refine weak_of [] ?_ ?_ rfl rfl <;> simp [lessT, lessM, lessB, AV.less]
      first | done | rfl
    · have he : i = n.paths.length := by (have : ¬ i < n.paths.length := by simpa using hb); omega
      subst he
      repeat (first | refine walkL_seq ?_ | refine walkL_skip ?_ | refine walkL_block ?_ | (refine walkL_region fun K hK => ?_; simp (maxSteps := 4000000) only [go_sem]; refine hK _ ?_; clear hK K) | refine walkL_nil ?_ | refine walkL_ret ?_ | refine walkL_exit ?_ | refine blockA_here ?_ | refine blockA_other rfl ?_ | refine blockA_ret ?_ | refine blockA_normal ?_ | refine thenA_ret ?_ | refine thenA_exit ?_ | refine thenA_normal ?_)
      simp (maxSteps := 4000000) only [go_sem, List.take_length]

/-- .. in memory of its own. -/
theorem f14m (n : Net) (hs : n.Small) : FnG Try.prog 14 [] [] [.d (.agg n.cells)] (.agg [.d (.i n.places), .own 0]) [.arr 49 8 (n.paths.map Path.row)] := by
  have hpl := hs.paths
  refine fnG_walk 33 Try.call14 Try.func14 rfl (by decide) [30] [] (by simp only [List.length_cons, List.length_nil]; decide) (by kernel_rfl) fun J => ?_
  simp (maxSteps := 4000000) only [go_sem, St.startG, Try.ntmps14, Try.results14, List.map_cons, List.map_nil, List.range_succ,  Net.cells]
  repeat (first | refine walkL_seq ?_ | refine walkL_skip ?_ | refine walkL_block ?_ | (refine walkL_region fun K hK => ?_; simp (maxSteps := 4000000) only [go_sem]; refine hK _ ?_; clear hK K) | refine walkL_nil ?_ | refine walkL_ret ?_ | refine walkL_exit ?_ | refine blockA_here ?_ | refine blockA_other rfl ?_ | refine blockA_ret ?_ | refine blockA_normal ?_ | refine thenA_ret ?_ | refine thenA_exit ?_ | refine thenA_normal ?_)
  refine walkL_loopS (fun (i : Nat) => [(4, .d (.i i))]) (fun i => [(3, some (.box [.d (.i n.places), .own 30])), (30, some (.arr 49 8 ((n.paths.take i).map Path.row)))]) (fun i => i ≤ n.paths.length) (fun i => n.paths.length - i) 0 ?_ (Nat.zero_le _) ?_
  · simp (maxSteps := 4000000) only [go_sem]
    refine weak_of [30] ?_ ?_ rfl rfl <;> simp [lessT, lessM, lessB, AV.less]
  · intro i hi
    simp (maxSteps := 4000000) only [go_sem]
    repeat (first | refine walkL_seq ?_ | refine walkL_skip ?_ | refine walkL_block ?_ | (refine walkL_region fun K hK => ?_; simp (maxSteps := 4000000) only [go_sem]; refine hK _ ?_; clear hK K) | refine walkL_nil ?_ | refine walkL_ret ?_ | refine walkL_exit ?_ | refine blockA_here ?_ | refine blockA_other rfl ?_ | refine blockA_ret ?_ | refine blockA_normal ?_ | refine thenA_ret ?_ | refine thenA_exit ?_ | refine thenA_normal ?_)
    refine walkL_cond rfl (fun hb => ?_) (fun hb => ?_)
    · have hlt : i < n.paths.length := by simpa using hb
      have hw : IntKind.i64.wrap ((i : Int) + 1) = ((i + 1 : Nat) : Int) := by rw [wr_small (by omega)]; simp
      obtain ⟨x, hx⟩ : ∃ x, n.paths[i]? = some x := ⟨_, List.getElem?_eq_getElem hlt⟩
      have hxo := hs.opens x (List.mem_of_getElem? hx)
      have h1 : x.opens.length ≤ 549755813888 := by omega
      have h2 : min i n.paths.length + 1 ≤ 549755813888 := by omega
      have h3 : (n.paths.take (i + 1)).map Path.row = (n.paths.take i).map Path.row ++ [x.row] := by rw [List.take_add_one, hx]; simp
      repeat (first | refine walkL_seq ?_ | refine walkL_skip ?_ | refine walkL_block ?_ | (refine walkL_region fun K hK => ?_; simp (maxSteps := 4000000) only [go_sem, hx, List.getElem?_map, Path.row, h1, h2, spanRows_head, List.length_take, hw]; refine hK _ ?_; clear hK K) | refine walkL_nil ?_ | refine walkL_ret ?_ | refine walkL_exit ?_ | refine blockA_here ?_ | refine blockA_other rfl ?_ | refine blockA_ret ?_ | refine blockA_normal ?_ | refine thenA_ret ?_ | refine thenA_exit ?_ | refine thenA_normal ?_)
      refine ⟨rfl, i + 1, ?_, hlt, by omega⟩
      rw [h3]
      refine weak_of [] ?_ ?_ rfl rfl <;> simp [lessT, lessM, lessB, AV.less]
      first | done | rfl
    · have he : i = n.paths.length := by (have : ¬ i < n.paths.length := by simpa using hb); omega
      subst he
      repeat (first | refine walkL_seq ?_ | refine walkL_skip ?_ | refine walkL_block ?_ | (refine walkL_region fun K hK => ?_; simp (maxSteps := 4000000) only [go_sem]; refine hK _ ?_; clear hK K) | refine walkL_nil ?_ | refine walkL_ret ?_ | refine walkL_exit ?_ | refine blockA_here ?_ | refine blockA_other rfl ?_ | refine blockA_ret ?_ | refine blockA_normal ?_ | refine thenA_ret ?_ | refine thenA_exit ?_ | refine thenA_normal ?_)
      simp (maxSteps := 4000000) only [go_sem, List.take_length, retG]
end Go.Ab
/- Plain laws of layer 1: what the document returns is what the program returns. -/
namespace Go.Ab
open Go.RowKit Go.Proofs
set_option maxHeartbeats 1000000

theorem endOf_true : endOf true = spanHi := rfl
theorem endOf_false : endOf false = spanLo := rfl

section
variable {n : Net} {p : Party} {frm start to deadline : Int}

theorem sure_eq (hn : n.Good) (hp : p.Good) (hf : 0 ≤ frm ∧ frm < n.places) (hs : 0 ≤ start ∧ start ≤ 2880) (but : Int) : sureF n p frm start to but = getI (arrivalsL n p spanHi frm start but) to := by
  unfold sureF
  rw [table_eq hn hp hf hs, endOf_true]

theorem vital_eq : refVitalL n p frm start to deadline = vitalL n p frm start to deadline := by
  unfold refVitalL vitalL
  by_cases h : openF n p [frm, to] [start, deadline] = 0
  · have ho := open_iff.1 h
    have hf := ho.place frm (by simp)
    have hs := ho.minute start (by simp)
    simp only [sure_eq ho.net ho.party hf hs]
  · rw [if_neg h, if_neg h]

theorem within_eq : refWithinL n p frm start deadline = withinL n p frm start deadline := by
  unfold refWithinL withinL
  by_cases h : openF n p [frm] [start, deadline] = 0
  · have ho := open_iff.1 h
    have hf := ho.place frm (by simp)
    have hs := ho.minute start (by simp)
    rw [table_eq ho.net ho.party hf hs, table_eq ho.net ho.party hf hs, endOf_true, endOf_false]
  · rw [if_neg h, if_neg h]

theorem shown_told (hn : n.Good) (hp : p.Good) (hf : 0 ≤ frm ∧ frm < n.places) (hs : 0 ≤ start ∧ start ≤ 2880) (high : Bool) (but : Int) : (arrivalsL n p (endOf high) frm start but).map shown1 = (arrivalsL n p (endOf high) frm start but).map told1 := by
  have hv : never = 1073741824 := rfl
  refine List.map_congr_left fun t ht => ?_
  obtain ⟨i, hi⟩ := List.getElem?_of_mem ht
  have hlen := arrivalsL_len (p := p) (but := but) (ways_end hn hp but high) hf hs
  have hil := (List.getElem?_eq_some_iff.1 hi).1
  have hg : getI (arrivalsL n p (endOf high) frm start but) (i : Int) = t := by unfold getI; simp [List.getD_eq_getElem?_getD, hi]
  have hr := (arr_spec (q := endOf high) (but := but) (ways_end hn hp but high) hf hs).1 (i : Int) (by omega) (by omega)
  rw [hg] at hr
  unfold shown1 told1
  rcases hr with hr | ⟨h1, h2, _⟩
  · rw [if_pos (by omega), if_pos hr]
  · rw [if_neg (by omega), if_neg (by omega)]

theorem arriveL_eq : refArriveL n p frm start = arriveL n p frm start := by
  unfold refArriveL arriveL
  by_cases h : openF n p [frm] [start] = 0
  · have ho := open_iff.1 h
    have hf := ho.place frm (by simp)
    have hs := ho.minute start (by simp)
    rw [table_eq ho.net ho.party hf hs, table_eq ho.net ho.party hf hs, shown_told ho.net ho.party hf hs, shown_told ho.net ho.party hf hs, endOf_true, endOf_false]
  · rw [if_neg h, if_neg h]

theorem findDown_eq {q : Int → Bool} {D : Int} (hD : -1 ≤ D) : ∀ (k : Nat), D < k → (∀ t : Nat, t < k → q t = decide ((t : Int) ≤ D)) → findDown q k = if D = -1 then none else some D.toNat
  | 0, h, _ => by rw [if_pos (by omega)]; rfl
  | k + 1, h, hq => by
    unfold findDown
    rw [hq k (Nat.lt_succ_self k)]
    by_cases hk : (k : Int) ≤ D
    · rw [if_pos (by simpa using hk), if_neg (by omega), show D.toNat = k by omega]
    · rw [if_neg (by simpa using hk)]
      exact findDown_eq hD k (by omega) fun t ht => hq t (by omega)

theorem latest_eq : refLatestL n p frm to deadline = latestL n p frm to deadline := by
  unfold refLatestL latestL
  by_cases h : openF n p [frm, to] [deadline] = 0
  · have ho := open_iff.1 h
    have hf := ho.place frm (by simp)
    have ht := ho.place to (by simp)
    have hd := ho.minute deadline (by simp)
    rw [if_pos h, if_pos h]
    obtain ⟨d1, d2⟩ := dead_spec ho.net ho.party ht hd
    obtain ⟨D, hD⟩ : ∃ D, D = getI (deadlinesL n p to deadline) frm := ⟨_, rfl⟩
    have hD1 := d1 frm hf.1 hf.2
    rw [← hD] at hD1 ⊢
    have hDd : D ≤ deadline := by
      by_cases h0 : 0 ≤ D
      · obtain ⟨t, h1, h2⟩ := (d2 frm D hf.1 hf.2 h0 hD1.2).1 (by rw [hD]; exact Int.le_refl _)
        have := h2.range (ways_ok ho.net ho.party (-1)).1 ⟨h0, hD1.2⟩ hf
        omega
      · omega
    rw [findDown_eq (D := D) hD1.1 _ (by omega) fun t htl => ?_]
    · by_cases h1 : D = -1
      · simp [h1]
      · rw [if_neg h1, if_neg h1]
        simp only [Prod.mk.injEq, and_true]
        omega
    · have hts : 0 ≤ (t : Int) ∧ (t : Int) ≤ 2880 := by omega
      rw [sure_eq ho.net ho.party hf hts, hD]
      have := comes_iff ho.net ho.party hf ht hts hd
      simp only [this]
  · rw [if_neg h, if_neg h]
end
end Go.Ab
namespace Go.Ab
open Go.RowKit Go.Proofs
set_option maxHeartbeats 4000000
set_option maxRecDepth 20000
attribute [local irreducible] WalkL Walk

def checkTurnF (n : Net) (p : Party) (route : List Int) (frm start home deadline : Int) : Int :=
  if openF n p [frm, home] [start, deadline] = 0 then (if isRouteB n p frm route = true then 0 else 12) else openF n p [frm, home] [start, deadline]

theorem f81 (n : Net) (p : Party) (route : List Int) (frm start home deadline : Int) (hs : n.Small) (hr : route.length < 2 ^ 30) : Fn Try.prog 81 [.agg n.cells, .agg p.cells, .sl (intRows route), .i frm, .i start, .i home, .i deadline]
    (.i (checkTurnF n p route frm start home deadline)) := by
  have h52 := f52 n p [frm, home] [start, deadline] hs (by simp) (by simp)
  have h22 := f22 n p route frm hs.paths hr
  refine fn_walk 34 Try.call81 Try.func81 rfl (by decide) fun J => ?_
  simp (maxSteps := 4000000) only [go_sem, St.start, Try.ntmps81, Try.results81, Net.cells, Party.cells]
  repeat (first | refine walkL_seq ?_ | refine walkL_skip ?_ | refine walkL_block ?_ | (refine walkL_region fun K hK => ?_; simp (maxSteps := 4000000) only [go_sem]; (repeat (first | (refine ⟨_, .lent (hf := h52) (hd := rfl) (hr := rfl), ?_⟩; simp (maxSteps := 4000000) only [go_sem]) | (refine ⟨_, .given (hf := h52) (hd := rfl) (ha := rfl), ?_⟩; simp (maxSteps := 4000000) only [go_sem]))); refine hK _ ?_; clear hK K) | refine walkL_nil ?_ | refine walkL_ret ?_ | refine walkL_exit ?_ | refine blockA_here ?_ | refine blockA_other rfl ?_ | refine blockA_ret ?_ | refine blockA_normal ?_ | refine thenA_ret ?_ | refine thenA_exit ?_ | refine thenA_normal ?_)
  refine walkL_cond rfl (fun hc => ?_) (fun hc => ?_)
  · have hc : ¬ openF n p [frm, home] [start, deadline] = 0 := by simpa using hc
    repeat (first | refine walkL_seq ?_ | refine walkL_skip ?_ | refine walkL_block ?_ | (refine walkL_region fun K hK => ?_; simp (maxSteps := 4000000) only [go_sem]; refine hK _ ?_; clear hK K) | refine walkL_nil ?_ | refine walkL_ret ?_ | refine walkL_exit ?_ | refine blockA_here ?_ | refine blockA_other rfl ?_ | refine blockA_ret ?_ | refine blockA_normal ?_ | refine thenA_ret ?_ | refine thenA_exit ?_ | refine thenA_normal ?_)
    simp (maxSteps := 4000000) only [go_sem, checkTurnF, hc]
  · have hop : openF n p [frm, home] [start, deadline] = 0 := by simpa using hc
    repeat (first | refine walkL_seq ?_ | refine walkL_skip ?_ | refine walkL_block ?_ | (refine walkL_region fun K hK => ?_; simp (maxSteps := 4000000) only [go_sem]; (repeat (first | (refine ⟨_, .lent (hf := h22) (hd := rfl) (hr := rfl), ?_⟩; simp (maxSteps := 4000000) only [go_sem]) | (refine ⟨_, .given (hf := h22) (hd := rfl) (ha := rfl), ?_⟩; simp (maxSteps := 4000000) only [go_sem]))); refine hK _ ?_; clear hK K) | refine walkL_nil ?_ | refine walkL_ret ?_ | refine walkL_exit ?_ | refine blockA_here ?_ | refine blockA_other rfl ?_ | refine blockA_ret ?_ | refine blockA_normal ?_ | refine thenA_ret ?_ | refine thenA_exit ?_ | refine thenA_normal ?_)
    refine walkL_cond rfl (fun hc => ?_) (fun hc => ?_)
    · have hc : isRouteB n p frm route = false := by simpa using hc
      repeat (first | refine walkL_seq ?_ | refine walkL_skip ?_ | refine walkL_block ?_ | (refine walkL_region fun K hK => ?_; simp (maxSteps := 4000000) only [go_sem]; refine hK _ ?_; clear hK K) | refine walkL_nil ?_ | refine walkL_ret ?_ | refine walkL_exit ?_ | refine blockA_here ?_ | refine blockA_other rfl ?_ | refine blockA_ret ?_ | refine blockA_normal ?_ | refine thenA_ret ?_ | refine thenA_exit ?_ | refine thenA_normal ?_)
      simp (maxSteps := 4000000) only [go_sem, checkTurnF, hop, hc]
    · have hc : isRouteB n p frm route = true := by simpa using hc
      repeat (first | refine walkL_seq ?_ | refine walkL_skip ?_ | refine walkL_block ?_ | (refine walkL_region fun K hK => ?_; simp (maxSteps := 4000000) only [go_sem]; refine hK _ ?_; clear hK K) | refine walkL_nil ?_ | refine walkL_ret ?_ | refine walkL_exit ?_ | refine blockA_here ?_ | refine blockA_other rfl ?_ | refine blockA_ret ?_ | refine blockA_normal ?_ | refine thenA_ret ?_ | refine thenA_exit ?_ | refine thenA_normal ?_)
      simp (maxSteps := 4000000) only [go_sem, checkTurnF, hop, hc]

/-- A minute on a route is a minute, or never. -/
theorem posR_top {n : Net} {p : Party} (hn : n.Good) (hp : p.Good) {l : List Int} (hl : ∀ v ∈ l, onNet n v) {s : Int × Int} (h1 : 0 ≤ s.1 ∧ s.1 < n.places) (h2 : 0 ≤ s.2 ∧ s.2 ≤ 2880) : ∀ i, (posR n p s l i).2 = never ∨ (posR n p s l i).2 ≤ 2880
  | 0 => .inr h2.2
  | i + 1 => by
    cases hv : l[i]? with
    | none =>
      have : posR n p s l (i + 1) = posR n p s l i := by
        unfold posR
        rw [List.take_add_one, hv]; simp
      rw [this]
      exact posR_top hn hp hl h1 h2 i
    | some v =>
      rw [posR_succ hv]
      obtain ⟨e1, e2⟩ := pathAt_mem (hl v (List.mem_of_getElem? hv))
      rcases arrive_range (opens := (pathAt n v).opens) (posR_range hn hp hl h1 h2.1 i).2 (span_ok (hn.path _ e2) hp).1 with h | h
      · exact .inl h
      · exact .inr h.2

theorem f39 (n : Net) (p : Party) (route : List Int) (frm start home deadline : Int) (hs : n.Small) (hr : route.length < 2 ^ 30) : Fn Try.prog 39 [.agg n.cells, .agg p.cells, .sl (intRows route), .i frm, .i start, .i home, .i deadline]
    (.tup [.i (turnL n p route frm start home deadline).1, .i (turnL n p route frm start home deadline).2]) := by
  have h81 := f81 n p route frm start home deadline hs hr
  have hrl := intRows_len route
  refine fn_walk 73 Try.call39 Try.func39 rfl (by decide) fun J => ?_
  simp (maxSteps := 4000000) only [go_sem, St.start, Try.ntmps39, Try.results39, Net.cells, Party.cells]
  repeat (first | refine walkL_seq ?_ | refine walkL_skip ?_ | refine walkL_block ?_ | (refine walkL_region fun K hK => ?_; simp (maxSteps := 4000000) only [go_sem]; (repeat (first | (refine ⟨_, .lent (hf := h81) (hd := rfl) (hr := rfl), ?_⟩; simp (maxSteps := 4000000) only [go_sem]) | (refine ⟨_, .given (hf := h81) (hd := rfl) (ha := rfl), ?_⟩; simp (maxSteps := 4000000) only [go_sem]))); refine hK _ ?_; clear hK K) | refine walkL_nil ?_ | refine walkL_ret ?_ | refine walkL_exit ?_ | refine blockA_here ?_ | refine blockA_other rfl ?_ | refine blockA_ret ?_ | refine blockA_normal ?_ | refine thenA_ret ?_ | refine thenA_exit ?_ | refine thenA_normal ?_)
  refine walkL_cond rfl (fun hc => ?_) (fun hc => ?_)
  · have hc : checkTurnF n p route frm start home deadline ≠ 0 := by simpa using hc
    have e : turnL n p route frm start home deadline = (0, checkTurnF n p route frm start home deadline) := by
      unfold checkTurnF at hc ⊢
      unfold turnL
      split
      · rename_i h1
        rw [if_pos h1] at hc
        split
        · rename_i h2; rw [if_pos h2] at hc; exact absurd rfl hc
        · rename_i h2; simp
      · rename_i h1; simp
    repeat (first | refine walkL_seq ?_ | refine walkL_skip ?_ | refine walkL_block ?_ | (refine walkL_region fun K hK => ?_; simp (maxSteps := 4000000) only [go_sem]; refine hK _ ?_; clear hK K) | refine walkL_nil ?_ | refine walkL_ret ?_ | refine walkL_exit ?_ | refine blockA_here ?_ | refine blockA_other rfl ?_ | refine blockA_ret ?_ | refine blockA_normal ?_ | refine thenA_ret ?_ | refine thenA_exit ?_ | refine thenA_normal ?_)
    simp (maxSteps := 4000000) only [go_sem, e]
  · have hc : checkTurnF n p route frm start home deadline = 0 := by simpa using hc
    have hop : openF n p [frm, home] [start, deadline] = 0 := by
      unfold checkTurnF at hc
      split at hc
      · assumption
      · exact hc
    have hro : isRouteB n p frm route = true := by
      unfold checkTurnF at hc
      rw [if_pos hop] at hc
      split at hc
      · assumption
      · cases hc
    have ho := open_iff.1 hop
    have hfr := ho.place frm (by simp)
    have hto := ho.place home (by simp)
    have hst := ho.minute start (by simp)
    have hdl := ho.minute deadline (by simp)
    obtain ⟨k, hk0, hk1, hk2, hk3, hk4⟩ := turnL_spec hop hro
    have hon := isRoute_on hro
    have hrange := posR_range ho.net ho.party hon (s := (frm, start)) hfr hst.1
    have htop := posR_top ho.net ho.party hon (s := (frm, start)) hfr hst
    obtain ⟨pos, hpos⟩ : ∃ pos, pos = posR n p (frm, start) route := ⟨_, rfl⟩
    have hposs : ∀ (i : Nat) v, route[i]? = some v → pos (i + 1) = goOn n p (pos i) v := fun i v h => hpos ▸ posR_succ h
    have hpose : ∀ (i : Nat), route[i]? = none → pos (i + 1) = pos i := fun i h => by
      rw [hpos]; unfold posR; rw [List.take_add_one, h]; simp
    have hpos0 : pos 0 = (frm, start) := by rw [hpos]; rfl
    rw [← hpos] at hk3 hk4 hrange htop
    obtain ⟨by1, hby⟩ : ∃ by1, by1 = deadlinesL n p home deadline := ⟨_, rfl⟩
    rw [← hby] at hk3 hk4
    have hd := (dead_spec ho.net ho.party hto hdl).1
    rw [← hby] at hd
    have hv : never = 1073741824 := rfl
    have hsure : ∀ i, (pos i).2 ≤ 2880 → (sureF n p (pos i).1 (pos i).2 home (-1) ≤ deadline ↔ (pos i).2 ≤ getI by1 (pos i).1) := fun i h => by
      rw [sure_eq ho.net ho.party (hrange i).1 ⟨(hrange i).2, h⟩, hby]
      exact comes_iff ho.net ho.party (hrange i).1 hto ⟨(hrange i).2, h⟩ hdl
    have h55 := fun i => f55 n p (pos i).1 (pos i).2 home (-1) ho.net.ok (hrange i).1 hto
    rw [hk0]
    repeat (first | refine walkL_seq ?_ | refine walkL_skip ?_ | refine walkL_block ?_ | (refine walkL_region fun K hK => ?_; simp (maxSteps := 4000000) only [go_sem]; refine hK _ ?_; clear hK K) | refine walkL_nil ?_ | refine walkL_ret ?_ | refine walkL_exit ?_ | refine blockA_here ?_ | refine blockA_other rfl ?_ | refine blockA_ret ?_ | refine blockA_normal ?_ | refine thenA_ret ?_ | refine thenA_exit ?_ | refine thenA_normal ?_)
    refine walkL_loopS (fun (j : Nat) => [(18, .d (.i ((j : Int) - 1))), (3, .d (.i (pos j).1)), (17, .d (.i (pos j).2))]) (fun _ => []) (fun j => j ≤ route.length + 1 ∧ (j : Int) ≤ k + 1) (fun j => route.length + 1 - j) 0 ?_ ⟨Nat.zero_le _, by omega⟩ ?_
    · simp (maxSteps := 4000000) only [go_sem, hpos0]
      refine weak_of [] ?_ ?_ rfl rfl <;> simp [lessT, lessM, lessB, AV.less]
    · intro j ⟨hj, hjk⟩
      have hsj := hsure j
      have h55j := h55 j
      have hrj := hrange j
      have htj := htop j
      have hk3j := hk3 j
      have hk4j := hk4 j
      simp (maxSteps := 4000000) only [go_sem]
      by_cases hA : (j : Int) ≤ k
      · have hA1 : decide ((j : Int) - 1 < (route.length : Int)) = true := by simp; omega
        have hle := hk3j hA
        have hdj := hd (pos j).1 hrj.1.1 hrj.1.2
        have hA2 : decide ((pos j).2 < 1073741824) = true := by simp; omega
        have hA3 : decide (sureF n p (pos j).1 (pos j).2 home (-1) ≤ deadline) = true := by simpa using (hsj (by omega)).2 hle
        have hw : IntKind.i64.wrap ((j : Int) - 1 + 1) = (j : Int) := by rw [wr_small (by omega)]; omega
        repeat (first | refine walkL_seq ?_ | refine walkL_skip ?_ | refine walkL_block ?_ | (refine walkL_region fun K hK => ?_; simp (maxSteps := 4000000) only [go_sem, hrl, hA1, hA2, hA3, hw]; (repeat (first | (refine ⟨_, .lent (hf := h55j) (hd := rfl) (hr := rfl), ?_⟩; simp (maxSteps := 4000000) only [go_sem, hrl, hA1, hA2, hA3, hw]) | (refine ⟨_, .given (hf := h55j) (hd := rfl) (ha := rfl), ?_⟩; simp (maxSteps := 4000000) only [go_sem, hrl, hA1, hA2, hA3, hw]))); refine hK _ ?_; clear hK K) | refine walkL_nil ?_ | refine walkL_ret ?_ | refine walkL_exit ?_ | refine blockA_here ?_ | refine blockA_other rfl ?_ | refine blockA_ret ?_ | refine blockA_normal ?_ | refine thenA_ret ?_ | refine thenA_exit ?_ | refine thenA_normal ?_)
        refine walkL_true rfl ?_
        repeat (first | refine walkL_seq ?_ | refine walkL_skip ?_ | refine walkL_block ?_ | (refine walkL_region fun K hK => ?_; simp (maxSteps := 4000000) only [go_sem, hrl, hw]; refine hK _ ?_; clear hK K) | refine walkL_nil ?_ | refine walkL_ret ?_ | refine walkL_exit ?_ | refine blockA_here ?_ | refine blockA_other rfl ?_ | refine blockA_ret ?_ | refine blockA_normal ?_ | refine thenA_ret ?_ | refine thenA_exit ?_ | refine thenA_normal ?_)
        refine walkL_cond rfl (fun hc => ?_) (fun hc => ?_)
        · have hlt : j < route.length := by simpa using hc
          obtain ⟨v, hv⟩ : ∃ v, route[j]? = some v := ⟨_, List.getElem?_eq_getElem hlt⟩
          have g1 := intRows_at hv
          have hvo := hon v (List.mem_of_getElem? hv)
          obtain ⟨hx, hxm⟩ := pathAt_mem hvo
          obtain ⟨v, rfl⟩ : ∃ i : Nat, v = (i : Int) := ⟨v.toNat, by have := hvo.1; omega⟩
          have hso := span_ok (ho.net.path _ hxm) ho.party
          have hps := hposs j _ hv
          obtain ⟨pl, hpl0⟩ : ∃ pl, pl = (pos (j + 1)).1 := ⟨_, rfl⟩
          obtain ⟨at1, hat⟩ : ∃ at1, at1 = (pos (j + 1)).2 := ⟨_, rfl⟩
          have hst : stepF (pathAt n v) p (pos j).2 true = at1 := by
            rw [step_arrive hrj.2 hso.1 hso.2.1, hat, hps]; rfl
          have hpv : (pathAt n v).to = pl := by rw [hpl0, hps]; rfl
          rw [Int.toNat_natCast] at hx
          have h35 := f35 n p v (pathAt n v) (pos j).2 true hx (by have := hs.opens _ hxm; omega)
          rw [hst, Net.cells] at h35
          obtain ⟨y, hy⟩ : ∃ y, y = pathAt n v := ⟨_, rfl⟩
          rw [← hy] at hx hpv
          repeat (first | refine walkL_seq ?_ | refine walkL_skip ?_ | refine walkL_block ?_ | (refine walkL_region fun K hK => ?_; simp (maxSteps := 4000000) only [go_sem]; refine hK _ ?_; clear hK K) | refine walkL_nil ?_ | refine walkL_ret ?_ | refine walkL_exit ?_ | refine blockA_here ?_ | refine blockA_other rfl ?_ | refine blockA_ret ?_ | refine blockA_normal ?_ | refine thenA_ret ?_ | refine thenA_exit ?_ | refine thenA_normal ?_)
          refine walkL_drawn (by kernel_rfl) (by kernel_rfl) fun K hK => ?_
          simp (maxSteps := 4000000) only [go_sem, g1]
          refine ⟨_, .fn (hf := h35) (hd := rfl) (hr := .inl rfl), ?_⟩
          simp (maxSteps := 4000000) only [go_sem]
          refine ⟨by kernel_rfl, hK _ ?_⟩
          clear hK K
          repeat (first | refine walkL_seq ?_ | refine walkL_skip ?_ | refine walkL_block ?_ | (refine walkL_region fun K hK => ?_; simp (maxSteps := 4000000) only [go_sem]; refine hK _ ?_; clear hK K) | refine walkL_nil ?_ | refine walkL_ret ?_ | refine walkL_exit ?_ | refine blockA_here ?_ | refine blockA_other rfl ?_ | refine blockA_ret ?_ | refine blockA_normal ?_ | refine thenA_ret ?_ | refine thenA_exit ?_ | refine thenA_normal ?_)
          refine walkL_drawn (by kernel_rfl) (by kernel_rfl) fun K hK => ?_
          simp (maxSteps := 4000000) only [go_sem, g1, hx, List.getElem?_map, Path.row]
          refine ⟨by kernel_rfl, hK _ ?_⟩
          clear hK K
          repeat (first | refine walkL_seq ?_ | refine walkL_skip ?_ | refine walkL_block ?_ | (refine walkL_region fun K hK => ?_; simp (maxSteps := 4000000) only [go_sem]; refine hK _ ?_; clear hK K) | refine walkL_nil ?_ | refine walkL_ret ?_ | refine walkL_exit ?_ | refine blockA_here ?_ | refine blockA_other rfl ?_ | refine blockA_ret ?_ | refine blockA_normal ?_ | refine thenA_ret ?_ | refine thenA_exit ?_ | refine thenA_normal ?_)
          refine ⟨rfl, j + 1, ?_, ⟨by omega, by omega⟩, by omega⟩
          rw [← hpl0, ← hat, ← hpv, show ((j + 1 : Nat) : Int) - 1 = (j : Int) by omega]
          refine weak_of [] ?_ ?_ rfl rfl <;> simp [lessT, lessM, lessB, AV.less]
        · have hlt : ¬ j < route.length := by simpa using hc
          repeat (first | refine walkL_seq ?_ | refine walkL_skip ?_ | refine walkL_block ?_ | (refine walkL_region fun K hK => ?_; simp (maxSteps := 4000000) only [go_sem]; refine hK _ ?_; clear hK K) | refine walkL_nil ?_ | refine walkL_ret ?_ | refine walkL_exit ?_ | refine blockA_here ?_ | refine blockA_other rfl ?_ | refine blockA_ret ?_ | refine blockA_normal ?_ | refine thenA_ret ?_ | refine thenA_exit ?_ | refine thenA_normal ?_)
          refine ⟨rfl, j + 1, ?_, ⟨by omega, by omega⟩, by omega⟩
          rw [hpose j (by simp; omega), show ((j + 1 : Nat) : Int) - 1 = (j : Int) by omega]
          refine weak_of [] ?_ ?_ rfl rfl <;> simp [lessT, lessM, lessB, AV.less]
      · have hjk1 : (j : Int) - 1 = k := by omega
        by_cases hB : (j : Int) - 1 < (route.length : Int)
        · have hA1 : decide ((j : Int) - 1 < (route.length : Int)) = true := by simpa using hB
          have hgt := hk4j (by omega) (by omega)
          rcases htj with htj | htj
          · have hA2 : decide ((pos j).2 < 1073741824) = false := by simp; omega
            repeat (first | refine walkL_seq ?_ | refine walkL_skip ?_ | refine walkL_block ?_ | (refine walkL_region fun K hK => ?_; simp (maxSteps := 4000000) only [go_sem, hrl, hA1, hA2]; refine hK _ ?_; clear hK K) | refine walkL_nil ?_ | refine walkL_ret ?_ | refine walkL_exit ?_ | refine blockA_here ?_ | refine blockA_other rfl ?_ | refine blockA_ret ?_ | refine blockA_normal ?_ | refine thenA_ret ?_ | refine thenA_exit ?_ | refine thenA_normal ?_)
            refine walkL_false rfl ?_
            repeat (first | refine walkL_seq ?_ | refine walkL_skip ?_ | refine walkL_block ?_ | (refine walkL_region fun K hK => ?_; simp (maxSteps := 4000000) only [go_sem]; refine hK _ ?_; clear hK K) | refine walkL_nil ?_ | refine walkL_ret ?_ | refine walkL_exit ?_ | refine blockA_here ?_ | refine blockA_other rfl ?_ | refine blockA_ret ?_ | refine blockA_normal ?_ | refine thenA_ret ?_ | refine thenA_exit ?_ | refine thenA_normal ?_)
            simp (maxSteps := 4000000) only [go_sem, hjk1]
          · have hA2 : decide ((pos j).2 < 1073741824) = true := by simp; omega
            have hA3 : decide (sureF n p (pos j).1 (pos j).2 home (-1) ≤ deadline) = false := by
              simp only [decide_eq_false_iff_not]
              intro h
              have := (hsj htj).1 h
              omega
            repeat (first | refine walkL_seq ?_ | refine walkL_skip ?_ | refine walkL_block ?_ | (refine walkL_region fun K hK => ?_; simp (maxSteps := 4000000) only [go_sem, hrl, hA1, hA2, hA3]; (repeat (first | (refine ⟨_, .lent (hf := h55j) (hd := rfl) (hr := rfl), ?_⟩; simp (maxSteps := 4000000) only [go_sem, hrl, hA1, hA2, hA3]) | (refine ⟨_, .given (hf := h55j) (hd := rfl) (ha := rfl), ?_⟩; simp (maxSteps := 4000000) only [go_sem, hrl, hA1, hA2, hA3]))); refine hK _ ?_; clear hK K) | refine walkL_nil ?_ | refine walkL_ret ?_ | refine walkL_exit ?_ | refine blockA_here ?_ | refine blockA_other rfl ?_ | refine blockA_ret ?_ | refine blockA_normal ?_ | refine thenA_ret ?_ | refine thenA_exit ?_ | refine thenA_normal ?_)
            refine walkL_false rfl ?_
            repeat (first | refine walkL_seq ?_ | refine walkL_skip ?_ | refine walkL_block ?_ | (refine walkL_region fun K hK => ?_; simp (maxSteps := 4000000) only [go_sem]; refine hK _ ?_; clear hK K) | refine walkL_nil ?_ | refine walkL_ret ?_ | refine walkL_exit ?_ | refine blockA_here ?_ | refine blockA_other rfl ?_ | refine blockA_ret ?_ | refine blockA_normal ?_ | refine thenA_ret ?_ | refine thenA_exit ?_ | refine thenA_normal ?_)
            simp (maxSteps := 4000000) only [go_sem, hjk1]
        · have hA1 : decide ((j : Int) - 1 < (route.length : Int)) = false := by simpa using hB
          repeat (first | refine walkL_seq ?_ | refine walkL_skip ?_ | refine walkL_block ?_ | (refine walkL_region fun K hK => ?_; simp (maxSteps := 4000000) only [go_sem, hrl, hA1]; refine hK _ ?_; clear hK K) | refine walkL_nil ?_ | refine walkL_ret ?_ | refine walkL_exit ?_ | refine blockA_here ?_ | refine blockA_other rfl ?_ | refine blockA_ret ?_ | refine blockA_normal ?_ | refine thenA_ret ?_ | refine thenA_exit ?_ | refine thenA_normal ?_)
          refine walkL_false rfl ?_
          repeat (first | refine walkL_seq ?_ | refine walkL_skip ?_ | refine walkL_block ?_ | (refine walkL_region fun K hK => ?_; simp (maxSteps := 4000000) only [go_sem]; refine hK _ ?_; clear hK K) | refine walkL_nil ?_ | refine walkL_ret ?_ | refine walkL_exit ?_ | refine blockA_here ?_ | refine blockA_other rfl ?_ | refine blockA_ret ?_ | refine blockA_normal ?_ | refine thenA_ret ?_ | refine thenA_exit ?_ | refine thenA_normal ?_)
          simp (maxSteps := 4000000) only [go_sem, hjk1]
end Go.Ab
namespace Go.Ab
open Go.RowKit Go.Proofs
set_option maxHeartbeats 4000000
set_option maxRecDepth 20000
attribute [local irreducible] WalkL Walk

theorem vitalL_len (n : Net) (p : Party) (frm start to deadline : Int) : (vitalL n p frm start to deadline).1.length ≤ n.paths.length := by
  unfold vitalL
  split
  · split
    · simp
    · exact selL_len _ _
  · simp

theorem withinL_len (n : Net) (p : Party) (frm start deadline : Int) : (withinL n p frm start deadline).1.length < 2 ^ 30 ∧ (withinL n p frm start deadline).2.1.length < 2 ^ 30 := by
  unfold withinL
  split
  · rename_i h
    have hpl := (open_iff.1 h).net.places
    have h1 := untilL_len deadline (arrivalsL n p spanHi frm start (-1))
    have h2 := untilL_len deadline (arrivalsL n p spanLo frm start (-1))
    rw [arrivals_len] at h1 h2
    constructor <;> dsimp only <;> omega
  · simp

theorem f17same (l : List Int) (h : l.length < 2 ^ 30) : Fn Try.prog 17 [.sl (intRows l), .sl (intRows l)] (.bool true) := by
  have := f17 l l h
  simpa using this

theorem f11 (n : Net) (p : Party) (x : Trip) (hs : n.Small) (hr : x.route.length < 2 ^ 30) : Fn Try.prog 11 [.agg n.cells, .agg p.cells, .agg x.row] (.bool true) := by
  have h12 := f12 n hs
  have h14 := f14 n hs
  rw [Net.cells] at h14
  have hrl := intRows_len x.route
  have hrh := intRows_head x.route
  have h31 := f31 n p x.frm x.start x.to x.deadline hs
  have h36 := f36 n p x.frm x.start x.to x.deadline hs
  have h37 := f37 n p x.frm x.start x.deadline hs
  have h38 := f38 n p x.frm x.start x.deadline hs
  have h34 := f34 n p x.route x.frm x.start x.to x.deadline hs hr
  have h39 := f39 n p x.route x.frm x.start x.to x.deadline hs hr
  rw [vital_eq] at h36
  rw [within_eq] at h38
  have hvl := vitalL_len n p x.frm x.start x.to x.deadline
  have hwl := withinL_len n p x.frm x.start x.deadline
  obtain ⟨v, hv⟩ : ∃ v, v = vitalL n p x.frm x.start x.to x.deadline := ⟨_, rfl⟩
  obtain ⟨w, hw⟩ : ∃ w, w = withinL n p x.frm x.start x.deadline := ⟨_, rfl⟩
  obtain ⟨k, hk⟩ : ∃ k, k = turnL n p x.route x.frm x.start x.to x.deadline := ⟨_, rfl⟩
  rw [← hv] at h31 h36 hvl
  rw [← hw] at h37 h38 hwl
  rw [← hk] at h34 h39
  have hps := hs.paths
  have e1 := f17same v.1 (by omega)
  have e2 := f17same w.1 hwl.1
  have e3 := f17same w.2.1 hwl.2
  have n1 : (v.2 != v.2) = false := by simp
  have n2 : (w.2.2 != w.2.2) = false := by simp
  have n3 : (k.1 == k.1) = true := by simp
  have n4 : (k.2 == k.2) = true := by simp
  have hal : x.route.length ≤ 549755813888 := by omega
  refine fn_walk 152 Try.call11 Try.func11 rfl (by decide) fun J => ?_
  simp (maxSteps := 4000000) only [go_sem, St.start, Try.ntmps11, Try.results11, Net.cells, Party.cells, Trip.row]
  by_cases hfar : farB n = true
  · repeat (first | refine walkL_seq ?_ | refine walkL_skip ?_ | refine walkL_block ?_ | (refine walkL_region fun K hK => ?_; simp (maxSteps := 4000000) only [go_sem, hfar]; (repeat (first | (refine ⟨_, .lent (hf := h12) (hd := rfl) (hr := rfl), ?_⟩; simp (maxSteps := 4000000) only [go_sem, hfar]) | (refine ⟨_, .given (hf := h12) (hd := rfl) (ha := rfl), ?_⟩; simp (maxSteps := 4000000) only [go_sem, hfar]))); refine hK _ ?_; clear hK K) | refine walkL_nil ?_ | refine walkL_ret ?_ | refine walkL_exit ?_ | refine blockA_here ?_ | refine blockA_other rfl ?_ | refine blockA_ret ?_ | refine blockA_normal ?_ | refine thenA_ret ?_ | refine thenA_exit ?_ | refine thenA_normal ?_)
    refine walkL_true rfl ?_
    repeat (first | refine walkL_seq ?_ | refine walkL_skip ?_ | refine walkL_block ?_ | (refine walkL_region fun K hK => ?_; simp (maxSteps := 4000000) only [go_sem]; (repeat (first | (refine ⟨_, .lent (hf := f13) (hd := rfl) (hr := rfl), ?_⟩; simp (maxSteps := 4000000) only [go_sem]) | (refine ⟨_, .given (hf := f13) (hd := rfl) (ha := rfl), ?_⟩; simp (maxSteps := 4000000) only [go_sem]))); refine hK _ ?_; clear hK K) | refine walkL_nil ?_ | refine walkL_ret ?_ | refine walkL_exit ?_ | refine blockA_here ?_ | refine blockA_other rfl ?_ | refine blockA_ret ?_ | refine blockA_normal ?_ | refine thenA_ret ?_ | refine thenA_exit ?_ | refine thenA_normal ?_)
    simp (maxSteps := 4000000) only [go_sem]
  · have hfar' : farB n = false := by simpa using hfar
    by_cases hl : (x.route.length : Int) > 60
    · have hl' : decide ((x.route.length : Int) > 60) = true := by simpa using hl
      repeat (first | refine walkL_seq ?_ | refine walkL_skip ?_ | refine walkL_block ?_ | (refine walkL_region fun K hK => ?_; simp (maxSteps := 4000000) only [go_sem, hfar', hrl, hl']; (repeat (first | (refine ⟨_, .lent (hf := h12) (hd := rfl) (hr := rfl), ?_⟩; simp (maxSteps := 4000000) only [go_sem, hfar', hrl, hl']) | (refine ⟨_, .given (hf := h12) (hd := rfl) (ha := rfl), ?_⟩; simp (maxSteps := 4000000) only [go_sem, hfar', hrl, hl']))); refine hK _ ?_; clear hK K) | refine walkL_nil ?_ | refine walkL_ret ?_ | refine walkL_exit ?_ | refine blockA_here ?_ | refine blockA_other rfl ?_ | refine blockA_ret ?_ | refine blockA_normal ?_ | refine thenA_ret ?_ | refine thenA_exit ?_ | refine thenA_normal ?_)
      refine walkL_true rfl ?_
      repeat (first | refine walkL_seq ?_ | refine walkL_skip ?_ | refine walkL_block ?_ | (refine walkL_region fun K hK => ?_; simp (maxSteps := 4000000) only [go_sem]; (repeat (first | (refine ⟨_, .lent (hf := f13) (hd := rfl) (hr := rfl), ?_⟩; simp (maxSteps := 4000000) only [go_sem]) | (refine ⟨_, .given (hf := f13) (hd := rfl) (ha := rfl), ?_⟩; simp (maxSteps := 4000000) only [go_sem]))); refine hK _ ?_; clear hK K) | refine walkL_nil ?_ | refine walkL_ret ?_ | refine walkL_exit ?_ | refine blockA_here ?_ | refine blockA_other rfl ?_ | refine blockA_ret ?_ | refine blockA_normal ?_ | refine thenA_ret ?_ | refine thenA_exit ?_ | refine thenA_normal ?_)
      simp (maxSteps := 4000000) only [go_sem]
    · have hl' : decide ((x.route.length : Int) > 60) = false := by simpa using hl
      repeat (first | refine walkL_seq ?_ | refine walkL_skip ?_ | refine walkL_block ?_ | (refine walkL_region fun K hK => ?_; simp (maxSteps := 4000000) only [go_sem, hfar', hrl, hl']; (repeat (first | (refine ⟨_, .lent (hf := h12) (hd := rfl) (hr := rfl), ?_⟩; simp (maxSteps := 4000000) only [go_sem, hfar', hrl, hl']) | (refine ⟨_, .given (hf := h12) (hd := rfl) (ha := rfl), ?_⟩; simp (maxSteps := 4000000) only [go_sem, hfar', hrl, hl']))); refine hK _ ?_; clear hK K) | refine walkL_nil ?_ | refine walkL_ret ?_ | refine walkL_exit ?_ | refine blockA_here ?_ | refine blockA_other rfl ?_ | refine blockA_ret ?_ | refine blockA_normal ?_ | refine thenA_ret ?_ | refine thenA_exit ?_ | refine thenA_normal ?_)
      refine walkL_false rfl ?_
      repeat (first | refine walkL_seq ?_ | refine walkL_skip ?_ | refine walkL_block ?_ | (refine walkL_region fun K hK => ?_; simp (maxSteps := 4000000) only [go_sem, n1]; (repeat (first | (refine ⟨_, .lent (hf := h14) (hd := rfl) (hr := rfl), ?_⟩; simp (maxSteps := 4000000) only [go_sem, n1]) | (refine ⟨_, .lent (hf := h31) (hd := rfl) (hr := rfl), ?_⟩; simp (maxSteps := 4000000) only [go_sem, n1]) | (refine ⟨_, .lent (hf := h36) (hd := rfl) (hr := rfl), ?_⟩; simp (maxSteps := 4000000) only [go_sem, n1]) | (refine ⟨_, .lent (hf := e1) (hd := rfl) (hr := rfl), ?_⟩; simp (maxSteps := 4000000) only [go_sem, n1]) | (refine ⟨_, .given (hf := h14) (hd := rfl) (ha := rfl), ?_⟩; simp (maxSteps := 4000000) only [go_sem, n1]) | (refine ⟨_, .given (hf := h31) (hd := rfl) (ha := rfl), ?_⟩; simp (maxSteps := 4000000) only [go_sem, n1]) | (refine ⟨_, .given (hf := h36) (hd := rfl) (ha := rfl), ?_⟩; simp (maxSteps := 4000000) only [go_sem, n1]) | (refine ⟨_, .given (hf := e1) (hd := rfl) (ha := rfl), ?_⟩; simp (maxSteps := 4000000) only [go_sem, n1]))); refine hK _ ?_; clear hK K) | refine walkL_nil ?_ | refine walkL_ret ?_ | refine walkL_exit ?_ | refine blockA_here ?_ | refine blockA_other rfl ?_ | refine blockA_ret ?_ | refine blockA_normal ?_ | refine thenA_ret ?_ | refine thenA_exit ?_ | refine thenA_normal ?_)
      refine walkL_false rfl ?_
      repeat (first | refine walkL_seq ?_ | refine walkL_skip ?_ | refine walkL_block ?_ | (refine walkL_region fun K hK => ?_; simp (maxSteps := 4000000) only [go_sem, n2]; (repeat (first | (refine ⟨_, .lent (hf := h37) (hd := rfl) (hr := rfl), ?_⟩; simp (maxSteps := 4000000) only [go_sem, n2]) | (refine ⟨_, .lent (hf := h38) (hd := rfl) (hr := rfl), ?_⟩; simp (maxSteps := 4000000) only [go_sem, n2]) | (refine ⟨_, .lent (hf := e2) (hd := rfl) (hr := rfl), ?_⟩; simp (maxSteps := 4000000) only [go_sem, n2]) | (refine ⟨_, .lent (hf := e3) (hd := rfl) (hr := rfl), ?_⟩; simp (maxSteps := 4000000) only [go_sem, n2]) | (refine ⟨_, .given (hf := h37) (hd := rfl) (ha := rfl), ?_⟩; simp (maxSteps := 4000000) only [go_sem, n2]) | (refine ⟨_, .given (hf := h38) (hd := rfl) (ha := rfl), ?_⟩; simp (maxSteps := 4000000) only [go_sem, n2]) | (refine ⟨_, .given (hf := e2) (hd := rfl) (ha := rfl), ?_⟩; simp (maxSteps := 4000000) only [go_sem, n2]) | (refine ⟨_, .given (hf := e3) (hd := rfl) (ha := rfl), ?_⟩; simp (maxSteps := 4000000) only [go_sem, n2]))); refine hK _ ?_; clear hK K) | refine walkL_nil ?_ | refine walkL_ret ?_ | refine walkL_exit ?_ | refine blockA_here ?_ | refine blockA_other rfl ?_ | refine blockA_ret ?_ | refine blockA_normal ?_ | refine thenA_ret ?_ | refine thenA_exit ?_ | refine thenA_normal ?_)
      refine walkL_false rfl ?_
      repeat (first | refine walkL_seq ?_ | refine walkL_skip ?_ | refine walkL_block ?_ | (refine walkL_region fun K hK => ?_; simp (maxSteps := 4000000) only [go_sem]; refine hK _ ?_; clear hK K) | refine walkL_nil ?_ | refine walkL_ret ?_ | refine walkL_exit ?_ | refine blockA_here ?_ | refine blockA_other rfl ?_ | refine blockA_ret ?_ | refine blockA_normal ?_ | refine thenA_ret ?_ | refine thenA_exit ?_ | refine thenA_normal ?_)
      refine walkL_drawnA (by kernel_rfl) (by kernel_rfl) fun K hK => ?_
      simp (maxSteps := 4000000) only [go_sem, hrl, hrh, hal]
      refine ⟨_, .fn (hf := h34) (hd := rfl) (hr := .inl rfl), ?_⟩
      simp (maxSteps := 4000000) only [go_sem]
      refine ⟨by kernel_rfl, by kernel_rfl, hK _ ?_⟩
      clear hK K
      repeat (first | refine walkL_seq ?_ | refine walkL_skip ?_ | refine walkL_block ?_ | (refine walkL_region fun K hK => ?_; simp (maxSteps := 4000000) only [go_sem, n3, n4]; (repeat (first | (refine ⟨_, .lent (hf := h39) (hd := rfl) (hr := rfl), ?_⟩; simp (maxSteps := 4000000) only [go_sem, n3, n4]) | (refine ⟨_, .lent (hf := f13) (hd := rfl) (hr := rfl), ?_⟩; simp (maxSteps := 4000000) only [go_sem, n3, n4]) | (refine ⟨_, .given (hf := h39) (hd := rfl) (ha := rfl), ?_⟩; simp (maxSteps := 4000000) only [go_sem, n3, n4]) | (refine ⟨_, .given (hf := f13) (hd := rfl) (ha := rfl), ?_⟩; simp (maxSteps := 4000000) only [go_sem, n3, n4]))); refine hK _ ?_; clear hK K) | refine walkL_nil ?_ | refine walkL_ret ?_ | refine walkL_exit ?_ | refine blockA_here ?_ | refine blockA_other rfl ?_ | refine blockA_ret ?_ | refine blockA_normal ?_ | refine thenA_ret ?_ | refine thenA_exit ?_ | refine thenA_normal ?_)
      simp (maxSteps := 4000000) only [go_sem]
end Go.Ab
namespace Go.Ab
open Go.RowKit Go.Proofs
set_option maxHeartbeats 4000000
set_option maxRecDepth 20000
attribute [local irreducible] WalkL Walk

theorem arriveL_len (n : Net) (p : Party) (frm start : Int) : (arriveL n p frm start).1.length < 2 ^ 30 ∧ (arriveL n p frm start).2.1.length < 2 ^ 30 := by
  unfold arriveL
  split
  · rename_i h
    have hpl := (open_iff.1 h).net.places
    simp only [List.length_map, arrivals_len]
    constructor <;> omega
  · simp

theorem f8 (n : Net) (p : Party) (x : Trip) (hs : n.Small) : Fn Try.prog 8 [.agg n.cells, .agg p.cells, .agg x.row] (.bool true) := by
  have h12 := f12 n hs
  have h14 := f14 n hs
  rw [Net.cells] at h14
  have h26 := f26 n hs
  have h27 := f27 n hs
  have h28 := f28 n p x.path hs
  have h29 := f29 n p x.path hs
  have h21 := f21 n p x.frm x.start hs
  have h30 := f30 n p x.frm x.start hs
  change Fn _ _ _ (.tup [.sl (intRows (refArriveL n p x.frm x.start).1), .sl (intRows (refArriveL n p x.frm x.start).2.1), .i (refArriveL n p x.frm x.start).2.2]) at h30
  rw [arriveL_eq] at h30
  have hwl := arriveL_len n p x.frm x.start
  obtain ⟨v, hv⟩ : ∃ v, v = walkF n p x.path := ⟨_, rfl⟩
  obtain ⟨w, hw⟩ : ∃ w, w = arriveL n p x.frm x.start := ⟨_, rfl⟩
  obtain ⟨c, hc⟩ : ∃ c, c = checkF n := ⟨_, rfl⟩
  rw [← hv, Span.row] at h28 h29
  rw [← hw] at h30 hwl
  change Fn _ _ _ (.tup [.sl (intRows (arriveL n p x.frm x.start).1), .sl (intRows (arriveL n p x.frm x.start).2.1), .i (arriveL n p x.frm x.start).2.2]) at h21
  rw [← hw] at h21
  rw [← hc] at h26 h27
  have e2 := f17same w.1 hwl.1
  have e3 := f17same w.2.1 hwl.2
  have n0 : (c != c) = false := by simp
  have n1 : (v.2 != v.2) = false := by simp
  have n2 : (w.2.2 == w.2.2) = true := by simp
  have n3 : (v.1.lo == v.1.lo) = true := by simp
  have n4 : (v.1.hi == v.1.hi) = true := by simp
  refine fn_walk 88 Try.call8 Try.func8 rfl (by decide) fun J => ?_
  simp (maxSteps := 4000000) only [go_sem, St.start, Try.ntmps8, Try.results8, Net.cells, Party.cells, Trip.row]
  by_cases hfar : farB n = true
  · repeat (first | refine walkL_seq ?_ | refine walkL_skip ?_ | refine walkL_block ?_ | (refine walkL_region fun K hK => ?_; simp (maxSteps := 4000000) only [go_sem, hfar]; (repeat (first | (refine ⟨_, .lent (hf := h12) (hd := rfl) (hr := rfl), ?_⟩; simp (maxSteps := 4000000) only [go_sem, hfar]) | (refine ⟨_, .given (hf := h12) (hd := rfl) (ha := rfl), ?_⟩; simp (maxSteps := 4000000) only [go_sem, hfar]))); refine hK _ ?_; clear hK K) | refine walkL_nil ?_ | refine walkL_ret ?_ | refine walkL_exit ?_ | refine blockA_here ?_ | refine blockA_other rfl ?_ | refine blockA_ret ?_ | refine blockA_normal ?_ | refine thenA_ret ?_ | refine thenA_exit ?_ | refine thenA_normal ?_)
    refine walkL_true rfl ?_
    repeat (first | refine walkL_seq ?_ | refine walkL_skip ?_ | refine walkL_block ?_ | (refine walkL_region fun K hK => ?_; simp (maxSteps := 4000000) only [go_sem]; (repeat (first | (refine ⟨_, .lent (hf := f13) (hd := rfl) (hr := rfl), ?_⟩; simp (maxSteps := 4000000) only [go_sem]) | (refine ⟨_, .given (hf := f13) (hd := rfl) (ha := rfl), ?_⟩; simp (maxSteps := 4000000) only [go_sem]))); refine hK _ ?_; clear hK K) | refine walkL_nil ?_ | refine walkL_ret ?_ | refine walkL_exit ?_ | refine blockA_here ?_ | refine blockA_other rfl ?_ | refine blockA_ret ?_ | refine blockA_normal ?_ | refine thenA_ret ?_ | refine thenA_exit ?_ | refine thenA_normal ?_)
    simp (maxSteps := 4000000) only [go_sem]
  · have hfar' : farB n = false := by simpa using hfar
    repeat (first | refine walkL_seq ?_ | refine walkL_skip ?_ | refine walkL_block ?_ | (refine walkL_region fun K hK => ?_; simp (maxSteps := 4000000) only [go_sem, hfar']; (repeat (first | (refine ⟨_, .lent (hf := h12) (hd := rfl) (hr := rfl), ?_⟩; simp (maxSteps := 4000000) only [go_sem, hfar']) | (refine ⟨_, .given (hf := h12) (hd := rfl) (ha := rfl), ?_⟩; simp (maxSteps := 4000000) only [go_sem, hfar']))); refine hK _ ?_; clear hK K) | refine walkL_nil ?_ | refine walkL_ret ?_ | refine walkL_exit ?_ | refine blockA_here ?_ | refine blockA_other rfl ?_ | refine blockA_ret ?_ | refine blockA_normal ?_ | refine thenA_ret ?_ | refine thenA_exit ?_ | refine thenA_normal ?_)
    refine walkL_false rfl ?_
    repeat (first | refine walkL_seq ?_ | refine walkL_skip ?_ | refine walkL_block ?_ | (refine walkL_region fun K hK => ?_; simp (maxSteps := 4000000) only [go_sem]; (repeat (first | (refine ⟨_, .lent (hf := h14) (hd := rfl) (hr := rfl), ?_⟩; simp (maxSteps := 4000000) only [go_sem]) | (refine ⟨_, .given (hf := h14) (hd := rfl) (ha := rfl), ?_⟩; simp (maxSteps := 4000000) only [go_sem]))); refine hK _ ?_; clear hK K) | refine walkL_nil ?_ | refine walkL_ret ?_ | refine walkL_exit ?_ | refine blockA_here ?_ | refine blockA_other rfl ?_ | refine blockA_ret ?_ | refine blockA_normal ?_ | refine thenA_ret ?_ | refine thenA_exit ?_ | refine thenA_normal ?_)
    refine walkL_drawn (by kernel_rfl) (by kernel_rfl) fun K hK => ?_
    simp (maxSteps := 4000000) only [go_sem]
    refine ⟨_, .fn (hf := h26) (hd := rfl) (hr := .inl rfl), ?_⟩
    simp (maxSteps := 4000000) only [go_sem]
    refine ⟨_, .fn (hf := h27) (hd := rfl) (hr := .inl rfl), ?_⟩
    simp (maxSteps := 4000000) only [go_sem, n0]
    refine ⟨by kernel_rfl, hK _ ?_⟩
    clear hK K
    repeat (first | refine walkL_seq ?_ | refine walkL_skip ?_ | refine walkL_block ?_ | (refine walkL_region fun K hK => ?_; simp (maxSteps := 4000000) only [go_sem]; refine hK _ ?_; clear hK K) | refine walkL_nil ?_ | refine walkL_ret ?_ | refine walkL_exit ?_ | refine blockA_here ?_ | refine blockA_other rfl ?_ | refine blockA_ret ?_ | refine blockA_normal ?_ | refine thenA_ret ?_ | refine thenA_exit ?_ | refine thenA_normal ?_)
    refine walkL_false rfl ?_
    repeat (first | refine walkL_seq ?_ | refine walkL_skip ?_ | refine walkL_block ?_ | (refine walkL_region fun K hK => ?_; simp (maxSteps := 4000000) only [go_sem, n1, n3, n4]; (repeat (first | (refine ⟨_, .lent (hf := h28) (hd := rfl) (hr := rfl), ?_⟩; simp (maxSteps := 4000000) only [go_sem, n1, n3, n4]) | (refine ⟨_, .lent (hf := h29) (hd := rfl) (hr := rfl), ?_⟩; simp (maxSteps := 4000000) only [go_sem, n1, n3, n4]) | (refine ⟨_, .given (hf := h28) (hd := rfl) (ha := rfl), ?_⟩; simp (maxSteps := 4000000) only [go_sem, n1, n3, n4]) | (refine ⟨_, .given (hf := h29) (hd := rfl) (ha := rfl), ?_⟩; simp (maxSteps := 4000000) only [go_sem, n1, n3, n4]))); refine hK _ ?_; clear hK K) | refine walkL_nil ?_ | refine walkL_ret ?_ | refine walkL_exit ?_ | refine blockA_here ?_ | refine blockA_other rfl ?_ | refine blockA_ret ?_ | refine blockA_normal ?_ | refine thenA_ret ?_ | refine thenA_exit ?_ | refine thenA_normal ?_)
    refine walkL_false rfl ?_
    repeat (first | refine walkL_seq ?_ | refine walkL_skip ?_ | refine walkL_block ?_ | (refine walkL_region fun K hK => ?_; simp (maxSteps := 4000000) only [go_sem, n2]; (repeat (first | (refine ⟨_, .lent (hf := h21) (hd := rfl) (hr := rfl), ?_⟩; simp (maxSteps := 4000000) only [go_sem, n2]) | (refine ⟨_, .lent (hf := h30) (hd := rfl) (hr := rfl), ?_⟩; simp (maxSteps := 4000000) only [go_sem, n2]) | (refine ⟨_, .lent (hf := e2) (hd := rfl) (hr := rfl), ?_⟩; simp (maxSteps := 4000000) only [go_sem, n2]) | (refine ⟨_, .lent (hf := e3) (hd := rfl) (hr := rfl), ?_⟩; simp (maxSteps := 4000000) only [go_sem, n2]) | (refine ⟨_, .lent (hf := f13) (hd := rfl) (hr := rfl), ?_⟩; simp (maxSteps := 4000000) only [go_sem, n2]) | (refine ⟨_, .given (hf := h21) (hd := rfl) (ha := rfl), ?_⟩; simp (maxSteps := 4000000) only [go_sem, n2]) | (refine ⟨_, .given (hf := h30) (hd := rfl) (ha := rfl), ?_⟩; simp (maxSteps := 4000000) only [go_sem, n2]) | (refine ⟨_, .given (hf := e2) (hd := rfl) (ha := rfl), ?_⟩; simp (maxSteps := 4000000) only [go_sem, n2]) | (refine ⟨_, .given (hf := e3) (hd := rfl) (ha := rfl), ?_⟩; simp (maxSteps := 4000000) only [go_sem, n2]) | (refine ⟨_, .given (hf := f13) (hd := rfl) (ha := rfl), ?_⟩; simp (maxSteps := 4000000) only [go_sem, n2]))); refine hK _ ?_; clear hK K) | refine walkL_nil ?_ | refine walkL_ret ?_ | refine walkL_exit ?_ | refine blockA_here ?_ | refine blockA_other rfl ?_ | refine blockA_ret ?_ | refine blockA_normal ?_ | refine thenA_ret ?_ | refine thenA_exit ?_ | refine thenA_normal ?_)
    simp (maxSteps := 4000000) only [go_sem]
end Go.Ab
